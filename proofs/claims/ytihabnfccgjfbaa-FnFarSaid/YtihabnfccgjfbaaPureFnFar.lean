/- Ways have a length. -/
import Derived.Test.YtihabnfccgjfbaaF0
import Derived.Test.YtihabnfccgjfbaaF1
import Derived.Test.YtihabnfccgjfbaaF10
import Derived.Test.YtihabnfccgjfbaaF11
import Derived.Test.YtihabnfccgjfbaaF12
import Derived.Test.YtihabnfccgjfbaaF15
import Derived.Test.YtihabnfccgjfbaaF16
import Derived.Test.YtihabnfccgjfbaaF19
import Derived.Test.YtihabnfccgjfbaaF2
import Derived.Test.YtihabnfccgjfbaaF20
import Derived.Test.YtihabnfccgjfbaaF21
import Derived.Test.YtihabnfccgjfbaaF22
import Derived.Test.YtihabnfccgjfbaaF23
import Derived.Test.YtihabnfccgjfbaaF24
import Derived.Test.YtihabnfccgjfbaaF25
import Derived.Test.YtihabnfccgjfbaaF3
import Derived.Test.YtihabnfccgjfbaaF4
import Derived.Test.YtihabnfccgjfbaaF5
import Derived.Test.YtihabnfccgjfbaaF6
import Derived.Test.YtihabnfccgjfbaaF7
import Derived.Test.YtihabnfccgjfbaaF8
import Derived.Test.YtihabnfccgjfbaaF9
set_option linter.unusedVariables false
set_option linter.unusedSimpArgs false
namespace Go.Proofs.Ytihabnfccgjfbaa.Sm
open List
/-- f permutes the numbers below n. -/
def Bij (n : Nat) (f : Nat → Nat) : Prop := (∀ i, i < n → f i < n) ∧ (∀ i j, i < n → j < n → f i = f j → i = j)

/-- the list of a permutation -/
def pm (n : Nat) (f : Nat → Nat) : List Int := (List.range n).map (fun i => (f i : Int))

theorem pm_length (n : Nat) (f : Nat → Nat) : (pm n f).length = n := by simp [pm]

theorem pm_getD (n : Nat) (f : Nat → Nat) (i : Nat) (h : i < n) : (pm n f).getD i 0 = (f i : Int) := by
 simp [pm, List.getD, h]

theorem pm_ext {n : Nat} {f g : Nat → Nat} : pm n f = pm n g ↔ ∀ i, i < n → f i = g i := by
 constructor
 ·intro h i hi
  have := pm_getD n f i hi
  rw [h, pm_getD n g i hi] at this
  omega
 ·intro h
  unfold pm
  apply List.map_congr_left
  intro i hi
  rw [h i (by simpa using hi)]

theorem eq_pm (n : Nat) (f : Nat → Nat) (l : List Int) (hl : l.length = n) (h : ∀ i, i < n → l.getD i 0 = (f i : Int)) : l = pm n f := by
 apply List.ext_getElem
 ·rw [hl, pm_length]
 ·intro i h1 h2
  have := h i (by omega)
  have e := pm_getD n f i (by omega)
  simp only [List.getD_eq_getElem?_getD, List.getElem?_eq_getElem h1, Option.getD_some] at this
  simp only [List.getD_eq_getElem?_getD, List.getElem?_eq_getElem h2, Option.getD_some] at e
  rw [this, e]

/-- the permutation without its last point -/
def byp (n : Nat) (f : Nat → Nat) (i : Nat) : Nat := if f i = n then f n else f i

theorem byp_bij {n : Nat} {f : Nat → Nat} (h : Bij (n + 1) f) : Bij n (byp n f) := by
 obtain ⟨h1, h2⟩ := h
 constructor
 ·intro i hi
  unfold byp
  have a := h1 i (by omega)
  have b := h1 n (by omega)
  split
  ·rename_i e
   have : f n ≠ n := fun e2 => by have := h2 i n (by omega) (by omega) (by omega); omega
   omega
  ·omega
 ·intro i j hi hj e
  unfold byp at e
  by_cases e1 : f i = n <;> by_cases e2 : f j = n
  ·exact h2 i j (by omega) (by omega) (by omega)
  ·rw [if_pos e1, if_neg e2] at e
   have := h2 n j (by omega) (by omega) e; omega
  ·rw [if_neg e1, if_pos e2] at e
   have := h2 i n (by omega) (by omega) e; omega
  ·rw [if_neg e1, if_neg e2] at e
   exact h2 i j (by omega) (by omega) e

theorem surj {n : Nat} {f : Nat → Nat} (h : Bij n f) : ∀ y, y < n → ∃ x, x < n ∧ f x = y := by
 induction n generalizing f with
 | zero => intro y hy; omega
 | succ n ih =>
  have hb := ih (byp_bij h)
  obtain ⟨h1, h2⟩ := h
  intro y hy
  by_cases e : y = n
  ·subst e
   by_cases e1 : f y = y
   ·exact ⟨y, by omega, e1⟩
   ·have b := h1 y (by omega)
    obtain ⟨x, hx, e2⟩ := hb (f y) (by omega)
    unfold byp at e2
    split at e2
    ·rename_i e3; exact ⟨x, by omega, e3⟩
    ·have := h2 x y (by omega) (by omega) e2; omega
  ·obtain ⟨x, hx, e2⟩ := hb y (by omega)
   unfold byp at e2
   split at e2
   ·exact ⟨n, by omega, e2⟩
   ·exact ⟨x, by omega, e2⟩

/-- the inverse below n -/
def finv (n : Nat) (f : Nat → Nat) (y : Nat) : Nat := ((List.range n).find? (fun i => f i == y)).getD 0

theorem finv_spec {n : Nat} {f : Nat → Nat} (h : Bij n f) {y : Nat} (hy : y < n) : finv n f y < n ∧ f (finv n f y) = y := by
 obtain ⟨x, hx, e⟩ := surj h y hy
 unfold finv
 cases hf : (List.range n).find? (fun i => f i == y) with
 | none =>
  rw [List.find?_eq_none] at hf
  exact absurd (hf x (by simpa using hx)) (by simp [e])
 | some z =>
  have a := List.mem_of_find?_eq_some hf
  have b := List.find?_some hf
  simp at a b
  exact ⟨by simpa using a, by simpa using b⟩

theorem finv_left {n : Nat} {f : Nat → Nat} (h : Bij n f) {x : Nat} (hx : x < n) : finv n f (f x) = x := by
 have := finv_spec h (h.1 x hx)
 exact h.2 _ _ this.1 hx this.2

theorem finv_bij {n : Nat} {f : Nat → Nat} (h : Bij n f) : Bij n (finv n f) := by
 refine ⟨fun i hi => (finv_spec h hi).1, fun i j hi hj e => ?_⟩
 have a := (finv_spec h hi).2
 have b := (finv_spec h hj).2
 rw [e] at a
 omega

theorem comp_bij {n : Nat} {f g : Nat → Nat} (h : Bij n f) (k : Bij n g) : Bij n (fun i => g (f i)) :=
 ⟨fun i hi => k.1 _ (h.1 i hi), fun i j hi hj e => h.2 i j hi hj (k.2 _ _ (h.1 i hi) (h.1 j hj) e)⟩

theorem id_bij (n : Nat) : Bij n (fun i => i) := ⟨fun _ h => h, fun _ _ _ _ e => e⟩

/-- f done m times -/
def it (f : Nat → Nat) : Nat → Nat → Nat
 | 0, x => x
 | m + 1, x => f (it f m x)

theorem it_add (f : Nat → Nat) (a b x : Nat) : it f (a + b) x = it f a (it f b x) := by
 induction a with
 | zero => simp [it]
 | succ a ih => rw [Nat.succ_add]; simp [it, ih]

theorem it_succ' (f : Nat → Nat) (a x : Nat) : it f (a + 1) x = it f a (f x) := it_add f a 1 x

theorem it_lt {n : Nat} {f : Nat → Nat} (h : Bij n f) (m : Nat) {x : Nat} (hx : x < n) : it f m x < n := by
 induction m with
 | zero => exact hx
 | succ m ih => exact h.1 _ ih

theorem it_inj {n : Nat} {f : Nat → Nat} (h : Bij n f) (m : Nat) {x y : Nat} (hx : x < n) (hy : y < n) (e : it f m x = it f m y) : x = y := by
 induction m with
 | zero => exact e
 | succ m ih => exact ih (h.2 _ _ (it_lt h m hx) (it_lt h m hy) e)

/-- pigeonhole: more than n numbers below n: two are equal -/
theorem pigeon (n : Nat) (g : Nat → Nat) (h : ∀ i, i ≤ n → g i < n) : ∃ i j, i < j ∧ j ≤ n ∧ g i = g j := by
 induction n generalizing g with
 | zero => exact absurd (h 0 (by omega)) (by omega)
 | succ n ih =>
  by_cases c : ∃ i, i < n + 1 ∧ g i = g (n + 1)
  ·obtain ⟨i, hi, e⟩ := c; exact ⟨i, n + 1, hi, by omega, e⟩
  ·have c' : ∀ i, i < n + 1 → g i ≠ g (n + 1) := fun i hi e => c ⟨i, hi, e⟩
   obtain ⟨i, j, hij, hj, e⟩ := ih (fun i => if g i = n then g (n + 1) else g i) (fun i hi => by
    have a := h i (by omega)
    have b := h (n + 1) (by omega)
    have d := c' i (by omega)
    show (if g i = n then g (n + 1) else g i) < n
    split <;> omega)
   refine ⟨i, j, hij, by omega, ?_⟩
   have di := c' i (by omega)
   have dj := c' j (by omega)
   by_cases e1 : g i = n <;> by_cases e2 : g j = n
   ·omega
   ·rw [if_pos e1, if_neg e2] at e; omega
   ·rw [if_neg e1, if_pos e2] at e; omega
   ·rw [if_neg e1, if_neg e2] at e; exact e

theorem it_back {n : Nat} {f : Nat → Nat} (h : Bij n f) {x : Nat} (hx : x < n) : ∃ m, 0 < m ∧ m ≤ n ∧ it f m x = x := by
 obtain ⟨i, j, hij, hj, e⟩ := pigeon n (fun m => it f m x) (fun m _ => it_lt h m hx)
 refine ⟨j - i, by omega, by omega, ?_⟩
 have : it f (i + (j - i)) x = it f i (it f (j - i) x) := it_add ..
 rw [show i + (j - i) = j by omega] at this
 exact (it_inj h i hx (it_lt h _ hx) (e.trans this)).symm

/-- the least positive m with p m, below a bound; else 0 -/
def least (p : Nat → Bool) (n : Nat) : Nat := ((List.range n).find? (fun m => p (m + 1))).elim 0 (· + 1)

theorem find_range_some {n : Nat} {p : Nat → Bool} {m : Nat} (h : (List.range n).find? p = some m) : m < n ∧ p m = true ∧ ∀ k, k < m → p k = false := by
 induction n generalizing m with
 | zero => simp at h
 | succ n ih =>
  rw [List.range_succ, List.find?_append] at h
  cases e : (List.range n).find? p with
  | some z =>
   rw [e] at h; simp at h; subst h
   have := ih e
   exact ⟨by omega, this.2⟩
  | none =>
   rw [e] at h
   simp at h
   obtain ⟨h1, rfl⟩ := h
   refine ⟨by omega, h1, fun k hk => ?_⟩
   rw [List.find?_eq_none] at e
   simpa using e k (by simpa using hk)

theorem least_spec {p : Nat → Bool} {n m : Nat} (hm : 0 < m) (hn : m ≤ n) (h : p m = true) :
 0 < least p n ∧ least p n ≤ m ∧ p (least p n) = true ∧ ∀ k, 0 < k → k < least p n → p k = false := by
 unfold least
 cases e : (List.range n).find? (fun m => p (m + 1)) with
 | none =>
  rw [List.find?_eq_none] at e
  have := e (m - 1) (by simp; omega)
  rw [show m - 1 + 1 = m by omega] at this
  exact absurd h this
 | some z =>
  obtain ⟨h1, h2, h3⟩ := find_range_some e
  simp only [Option.elim_some]
  refine ⟨by omega, ?_, h2, fun k hk hk2 => ?_⟩
  ·apply Nat.le_of_not_lt
   intro hlt
   have := h3 (m - 1) (by omega)
   rw [show m - 1 + 1 = m by omega, h] at this
   cases this
  ·have := h3 (k - 1) (by omega)
   rwa [show k - 1 + 1 = k by omega] at this

/-- how long the cycle of x is -/
def per (n : Nat) (f : Nat → Nat) (x : Nat) : Nat := least (fun m => it f m x == x) n

theorem per_spec {n : Nat} {f : Nat → Nat} (h : Bij n f) {x : Nat} (hx : x < n) :
 0 < per n f x ∧ per n f x ≤ n ∧ it f (per n f x) x = x ∧ ∀ k, 0 < k → k < per n f x → it f k x ≠ x := by
 obtain ⟨m, h1, h2, h3⟩ := it_back h hx
 obtain ⟨a, b, c, d⟩ := least_spec (p := fun m => it f m x == x) (n := n) h1 h2 (by simpa using h3)
 refine ⟨a, by unfold per; omega, ?_, fun k hk hk2 => by simpa using d k hk hk2⟩
 have := eq_of_beq c
 exact this

theorem it_mul_per {n : Nat} {f : Nat → Nat} (h : Bij n f) {x : Nat} (hx : x < n) (q : Nat) : it f (per n f x * q) x = x := by
 induction q with
 | zero => rfl
 | succ q ih => rw [Nat.mul_succ, it_add, (per_spec h hx).2.2.1, ih]

theorem it_mod_per {n : Nat} {f : Nat → Nat} (h : Bij n f) {x : Nat} (hx : x < n) (m : Nat) : it f m x = it f (m % per n f x) x := by
 conv => lhs; rw [← Nat.mod_add_div m (per n f x)]
 rw [it_add, it_mul_per h hx]

/-- two points change places -/
def swp (a b i : Nat) : Nat := if i = a then b else if i = b then a else i

theorem swp_bij {n a b : Nat} (ha : a < n) (hb : b < n) : Bij n (swp a b) := by
 constructor
 ·intro i hi; unfold swp; split <;> (try split) <;> omega
 ·intro i j _ _ e; unfold swp at e; split at e <;> split at e <;> (try split at e) <;> (try split at e) <;> omega

/-- is i the least of its cycle? -/
def isMin (n : Nat) (f : Nat → Nat) (i : Nat) : Bool := (List.range n).all fun k => decide (i ≤ it f k i)

/-- the number of cycles -/
def cc (n : Nat) (f : Nat → Nat) : Nat := ((List.range n).filter (isMin n f)).length

theorem isMin_iff {n : Nat} {f : Nat → Nat} (h : Bij n f) {i : Nat} (hi : i < n) : isMin n f i = true ↔ ∀ k, i ≤ it f k i := by
 unfold isMin
 rw [List.all_eq_true]
 constructor
 ·intro a k
  rw [it_mod_per h hi]
  have p := per_spec h hi
  have := a (k % per n f i) (by rw [mem_range]; have := Nat.mod_lt k p.1; omega)
  simpa using this
 ·intro a k _
  simpa using a k

/-- the points that f leads to from x -/
def orb (f : Nat → Nat) (x y : Nat) : Prop := ∃ k, it f k x = y

theorem orb_refl (f : Nat → Nat) (x : Nat) : orb f x x := ⟨0, rfl⟩

theorem orb_trans {f : Nat → Nat} {x y z : Nat} : orb f x y → orb f y z → orb f x z := by
 rintro ⟨a, rfl⟩ ⟨b, rfl⟩
 exact ⟨b + a, it_add f b a x⟩

theorem orb_symm {n : Nat} {f : Nat → Nat} (h : Bij n f) {x y : Nat} (hx : x < n) : orb f x y → orb f y x := by
 rintro ⟨k, rfl⟩
 have p := per_spec h hx
 refine ⟨per n f x - k % per n f x, ?_⟩
 rw [it_mod_per h hx k, ← it_add]
 have := Nat.mod_lt k p.1
 rw [show per n f x - k % per n f x + k % per n f x = per n f x by omega]
 exact p.2.2.1

/-- the cycle of x, from x on -/
def cyc (n : Nat) (f : Nat → Nat) (x : Nat) : List Nat := (List.range (per n f x)).map (fun k => it f k x)

theorem mem_cyc {n : Nat} {f : Nat → Nat} (h : Bij n f) {x y : Nat} (hx : x < n) : y ∈ cyc n f x ↔ orb f x y := by
 unfold cyc orb
 simp only [mem_map, mem_range]
 constructor
 ·rintro ⟨k, _, e⟩; exact ⟨k, e⟩
 ·rintro ⟨k, e⟩
  exact ⟨k % per n f x, Nat.mod_lt _ (per_spec h hx).1, by rw [← it_mod_per h hx]; exact e⟩

theorem it_inj_per {n : Nat} {f : Nat → Nat} (h : Bij n f) {x : Nat} (hx : x < n) {a b : Nat} (ha : a < per n f x) (hb : b < per n f x) (e : it f a x = it f b x) : a = b := by
 have key : ∀ a b, a < b → b < per n f x → it f a x = it f b x → False := by
  intro a b hab hb e
  have : it f (a + (b - a)) x = it f a (it f (b - a) x) := it_add ..
  rw [show a + (b - a) = b by omega, ← e] at this
  exact (per_spec h hx).2.2.2 (b - a) (by omega) (by omega) (it_inj h a hx (it_lt h _ hx) this).symm
 rcases Nat.lt_trichotomy a b with c | c | c
 ·exact (key a b c hb e).elim
 ·exact c
 ·exact (key b a c ha e.symm).elim

theorem nodup_map_range {m : Nat} {g : Nat → Nat} (h : ∀ a b, a < m → b < m → g a = g b → a = b) : ((List.range m).map g).Nodup := by
 unfold Nodup
 rw [pairwise_map]
 have := nodup_range (n := m)
 unfold Nodup at this
 rw [pairwise_iff_getElem] at this ⊢
 intro i j hi hj hij e
 have hi' : i < m := by simpa using hi
 have hj' : j < m := by simpa using hj
 simp only [getElem_range] at e
 have := h i j hi' hj' e
 omega

theorem isMin_iff' {n : Nat} {f : Nat → Nat} (h : Bij n f) {i : Nat} (hi : i < n) : isMin n f i = true ↔ ∀ j, j < i → ¬ orb f j i := by
 rw [isMin_iff h hi]
 constructor
 ·rintro a j hj ⟨k, e⟩
  obtain ⟨k', e'⟩ := orb_symm h (by omega : j < n) ⟨k, e⟩
  have := a k'
  omega
 ·intro a k
  apply Nat.le_of_not_lt
  intro hlt
  exact a _ hlt (orb_symm h hi ⟨k, rfl⟩)

/-- the least points of the cycles -/
def mins (n : Nat) (f : Nat → Nat) : List Nat := (List.range n).filter (isMin n f)

theorem mem_mins {n : Nat} {f : Nat → Nat} {i : Nat} : i ∈ mins n f ↔ i < n ∧ isMin n f i = true := by
 unfold mins; rw [mem_filter, mem_range]

/-- the least point of the cycle of x -/
theorem min_of {n : Nat} {f : Nat → Nat} (h : Bij n f) {x : Nat} (hx : x < n) : ∃ m, m < n ∧ isMin n f m = true ∧ orb f m x ∧ m ≤ x := by
 induction x using Nat.strongRecOn with
 | _ x ih =>
  by_cases c : isMin n f x = true
  ·exact ⟨x, hx, c, orb_refl f x, Nat.le_refl _⟩
  ·rw [isMin_iff' h hx] at c
   have : ∃ j, j < x ∧ orb f j x := by
    apply Classical.byContradiction
    intro d
    exact c fun j hj e => d ⟨j, hj, e⟩
   obtain ⟨j, hj, o⟩ := this
   obtain ⟨m, h1, h2, h3, h4⟩ := ih j hj (by omega)
   exact ⟨m, h1, h2, orb_trans h3 o, by omega⟩

/-- no coloring that both keep tells i from j -/
def conn (n : Nat) (a b : Nat → Nat) (i j : Nat) : Prop := ∀ c : Nat → Nat, (∀ x, x < n → c (a x) = c x ∧ c (b x) = c x) → c i = c j

theorem conn_refl (n : Nat) (a b : Nat → Nat) (i : Nat) : conn n a b i i := fun _ _ => rfl

theorem conn_symm {n : Nat} {a b : Nat → Nat} {i j : Nat} (h : conn n a b i j) : conn n a b j i := fun c hc => (h c hc).symm

theorem conn_trans {n : Nat} {a b : Nat → Nat} {i j k : Nat} (h : conn n a b i j) (h' : conn n a b j k) : conn n a b i k := fun c hc => (h c hc).trans (h' c hc)

theorem conn_a {n : Nat} {a b : Nat → Nat} {i : Nat} (h : i < n) : conn n a b i (a i) := fun _ hc => (hc i h).1.symm

theorem conn_b {n : Nat} {a b : Nat → Nat} {i : Nat} (h : i < n) : conn n a b i (b i) := fun _ hc => (hc i h).2.symm

/-- o tells the least point that each point leads to -/
structure IsOrb (n : Nat) (a b o : Nat → Nat) : Prop where
 keep : ∀ x, x < n → o (a x) = o x ∧ o (b x) = o x
 le : ∀ x, x < n → o x ≤ x
 conn : ∀ x, x < n → conn n a b x (o x)

theorem IsOrb.lt {n : Nat} {a b o : Nat → Nat} (h : IsOrb n a b o) {x : Nat} (hx : x < n) : o x < n := Nat.lt_of_le_of_lt (h.le x hx) hx

theorem IsOrb.unique {n : Nat} {a b o o' : Nat → Nat} (h : IsOrb n a b o) (h' : IsOrb n a b o') : ∀ x, x < n → o x = o' x := by
 have key : ∀ o o', IsOrb n a b o → IsOrb n a b o' → ∀ x, x < n → o' x ≤ o x := by
  intro o o' h h' x hx
  have e := h.conn x hx o' h'.keep
  rw [e]
  exact h'.le _ (h.lt hx)
 intro x hx
 exact Nat.le_antisymm (key _ _ h' h x hx) (key _ _ h h' x hx)

theorem IsOrb.idem {n : Nat} {a b o : Nat → Nat} (h : IsOrb n a b o) {x : Nat} (hx : x < n) : o (o x) = o x :=
 (h.conn x hx o h.keep).symm

/-- a set that one permutation maps into itself: it doesn't map others into it -/
theorem closed_back {n : Nat} {f : Nat → Nat} (h : Bij n f) (S : Nat → Prop) (hS : ∀ x, x < n → S x → S (f x)) {x : Nat} (hx : x < n) (hf : S (f x)) : S x := by
 have key : ∀ k, ∀ y, y < n → S y → S (it f k y) := by
  intro k
  induction k with
  | zero => intro y _ h; exact h
  | succ k ih => intro y hy h'; exact hS _ (it_lt h k hy) (ih y hy h')
 have p := per_spec h hx
 have := key (per n f x - 1) (f x) (h.1 x hx) hf
 rw [← it_succ', show per n f x - 1 + 1 = per n f x by omega, p.2.2.1] at this
 exact this

/-- a set that both map into itself and that holds a point holds all that it leads to -/
theorem conn_closed {n : Nat} {a b : Nat → Nat} (ha : Bij n a) (hb : Bij n b) (S : Nat → Prop) (h1 : ∀ x, x < n → S x → S (a x)) (h2 : ∀ x, x < n → S x → S (b x)) {i j : Nat} (hc : conn n a b i j) (hi : S i) : S j := by
 have d : ∀ x, Decidable (S x) := fun x => Classical.propDecidable _
 have := hc (fun x => if S x then 1 else 0) (fun x hx => by
  constructor
  ·by_cases c : S x
   ·rw [if_pos c, if_pos (h1 x hx c)]
   ·rw [if_neg c, if_neg (fun e => c (closed_back ha S h1 hx e))]
  ·by_cases c : S x
   ·rw [if_pos c, if_pos (h2 x hx c)]
   ·rw [if_neg c, if_neg (fun e => c (closed_back hb S h2 hx e))])
 simp only [if_pos hi] at this
 by_cases c : S j
 ·exact c
 ·rw [if_neg c] at this; cases this

/-- a permutation renamed by another one -/
def conj (n : Nat) (g f : Nat → Nat) (y : Nat) : Nat := g (f (finv n g y))

theorem conj_at {n : Nat} {g f : Nat → Nat} (hg : Bij n g) {x : Nat} (hx : x < n) : conj n g f (g x) = g (f x) := by
 unfold conj; rw [finv_left hg hx]

theorem conj_bij {n : Nat} {g f : Nat → Nat} (hg : Bij n g) (hf : Bij n f) : Bij n (conj n g f) :=
 have h := comp_bij (finv_bij hg) hf
 comp_bij (g := g) h hg

/-- keeps to the edges: zero at a dart, alike on a vertex, at most one more over an edge -/
structure Lip (n : Nat) (t s : Nat → Nat) (a : Nat) (D : Nat → Nat) : Prop where
 zero : D a = 0
 turn : ∀ x, x < n → D (t x) = D x
 edge : ∀ x, x < n → D x ≤ D (s x) + 1

structure IsDist (n : Nat) (t s : Nat → Nat) (a : Nat) (D : Nat → Nat) : Prop where
 lip : Lip n t s a D
 w0 : ∀ x, x < n → D x = 0 → orb t a x
 w1 : ∀ x m, x < n → D x = m + 1 → ∃ y, y < n ∧ orb t x y ∧ D (s y) = m

theorem Lip.orb {n : Nat} {t s : Nat → Nat} {a : Nat} {D : Nat → Nat} (h : Lip n t s a D) (ht : Bij n t) {x y : Nat} (hx : x < n) (o : orb t x y) : D y = D x := by
 obtain ⟨k, rfl⟩ := o
 induction k with
 | zero => rfl
 | succ k ih => show D (t (it t k x)) = D x; rw [h.turn _ (it_lt ht k hx), ih]

/-- nothing that keeps to the edges is greater -/
theorem IsDist.max {n : Nat} {t s : Nat → Nat} {a : Nat} {D E : Nat → Nat} (ht : Bij n t) (hs : Bij n s) (ha : a < n) (h : IsDist n t s a D) (e : Lip n t s a E) : ∀ x, x < n → E x ≤ D x := by
 have key : ∀ m x, x < n → D x = m → E x ≤ m := by
  intro m
  induction m with
  | zero =>
   intro x hx d
   have := e.orb ht ha (h.w0 x hx d)
   rw [this, e.zero]; exact Nat.le_refl _
  | succ m ih =>
   intro x hx d
   obtain ⟨y, hy, o, d2⟩ := h.w1 x m hx d
   have i := ih (s y) (hs.1 y hy) d2
   have j := e.edge y hy
   have k := e.orb ht hx o
   omega
 intro x hx
 exact key _ x hx rfl

theorem dist_triangle {n : Nat} {t s : Nat → Nat} {a c : Nat} {D E : Nat → Nat} (ht : Bij n t) (hs : Bij n s) (hc : c < n) (h : IsDist n t s a D) (h' : IsDist n t s c E) {x : Nat} (hx : x < n) : D x ≤ D c + E x := by
 have l : Lip n t s c (fun y => D y - D c) :=
  ⟨Nat.sub_self _, fun y hy => by show D (t y) - D c = D y - D c; rw [h.lip.turn y hy], fun y hy => by have := h.lip.edge y hy; show D y - D c ≤ D (s y) - D c + 1; omega⟩
 have := h'.max ht hs hc l x hx
 have : D x - D c ≤ E x := this
 omega

theorem dist_symm {n : Nat} {t s : Nat → Nat} (ss : ∀ x, x < n → s (s x) = x) {a b : Nat} {D E : Nat → Nat} (ht : Bij n t) (hs : Bij n s) (ha : a < n) (hb : b < n) (h : IsDist n t s a D) (h' : IsDist n t s b E) : E a = D b := by
 have key : ∀ {a b : Nat} {D E : Nat → Nat}, a < n → b < n → IsDist n t s a D → IsDist n t s b E → E a ≤ D b := by
  intro a b D E ha hb h h'
  have l : Lip n t s a (fun y => E a - E y) :=
   ⟨Nat.sub_self _, fun y hy => by show E a - E (t y) = E a - E y; rw [h'.lip.turn y hy], fun y hy => by
    have := h'.lip.edge (s y) (hs.1 y hy)
    rw [ss y hy] at this
    show E a - E y ≤ E a - E (s y) + 1; omega⟩
  have m := h.max ht hs ha l b hb
  have m' : E a - E b ≤ D b := m
  rw [h'.lip.zero] at m'
  omega
 exact Nat.le_antisymm (key ha hb h h') (key hb ha h' h)

/-- each smaller distance is met, too -/
theorem dist_levels {n : Nat} {t s : Nat → Nat} {a : Nat} {D : Nat → Nat} (hs : Bij n s) (h : IsDist n t s a D) (m : Nat) : ∀ x, x < n → D x = m → ∀ l, l ≤ m → ∃ y, y < n ∧ D y = l := by
 induction m with
 | zero => intro x hx d l hl; exact ⟨x, hx, by omega⟩
 | succ m ih =>
  intro x hx d l hl
  by_cases c : l = m + 1
  ·exact ⟨x, hx, by omega⟩
  ·obtain ⟨y, hy, _, d2⟩ := h.w1 x m hx d
   exact ih (s y) (hs.1 y hy) d2 l (by omega)

theorem dist_lt {n : Nat} {t s : Nat → Nat} {a : Nat} {D : Nat → Nat} (ht : Bij n t) (hs : Bij n s) (h : IsDist n t s a D) {x : Nat} (hx : x < n) : D x < cc n t := by
 have ex : ∀ l, ∃ m : Nat, l ≤ D x → m ∈ mins n t ∧ D m = l := by
  intro l
  by_cases c : l ≤ D x
  ·obtain ⟨y, hy, e⟩ := dist_levels hs h _ x hx rfl l c
   obtain ⟨m, h1, h2, h3, _⟩ := min_of ht hy
   exact ⟨m, fun _ => ⟨mem_mins.2 ⟨h1, h2⟩, by rw [← h.lip.orb ht h1 h3]; exact e⟩⟩
  ·exact ⟨0, fun d => (c d).elim⟩
 let G : Nat → Nat := fun l => Classical.choose (ex l)
 have hG : ∀ l, l ≤ D x → G l ∈ mins n t ∧ D (G l) = l := fun l => Classical.choose_spec (ex l)
 have nd : ((List.range (D x + 1)).map G).Nodup := nodup_map_range fun a b ha hb e => by
  have e1 := (hG a (by omega)).2
  have e2 := (hG b (by omega)).2
  rw [e] at e1; omega
 have := nd.length_le_of_subset (l₂ := mins n t) (fun y hy => by
  rw [mem_map] at hy
  obtain ⟨l, hl, rfl⟩ := hy
  exact (hG l (by have := mem_range.1 hl; omega)).1)
 rw [length_map, length_range] at this
 exact this
end Go.Proofs.Ytihabnfccgjfbaa.Sm
namespace Go.Proofs.Ytihabnfccgjfbaa.R
open Go.RowKit Go.Proofs.YtihabnfccgjfbaaW.PrintWords Go.Proofs.YtihabnfccgjfbaaW.PrintLast Go.Proofs.YtihabnfccgjfbaaW.PrintMore Go.Proofs.Ytihabnfccgjfbaa.F Go.Proofs.Ytihabnfccgjfbaa.Sm
theorem Ev.pos {α : Type} {c : Prop} [Decidable c] {A B : Nat → Option α} {r : α} (h : c) (k : Ev A r) : Ev (fun n => if c then A n else B n) r := by
 simp only [if_pos h]; exact k

theorem Ev.neg {α : Type} {c : Prop} [Decidable c] {A B : Nat → Option α} {r : α} (h : ¬ c) (k : Ev B r) : Ev (fun n => if c then A n else B n) r := by
 simp only [if_neg h]; exact k

theorem Ev.bind1 {α β : Type} {g : Nat → Option α} {f : Nat → α → Option β} {a : α} {r : β} (h : Ev g a) (k : Ev (fun n => f n a) r) : Ev (fun n => (g n).bind (f n)) r := Ev.bind h k

theorem Ev.some1 {α β : Type} {f : Nat → α → Option β} {a : α} {r : β} (k : Ev (fun n => f n a) r) : Ev (fun n => (some a).bind (f n)) r := k

theorem wrap_nat {i : Nat} (h : i < 9223372036854775807) : wrap64 ((i : Int) + 1) = ((i + 1 : Nat) : Int) := by unfold wrap64; omega

theorem wrap_in {n : Int} (h1 : -9223372036854775808 ≤ n) (h2 : n ≤ 9223372036854775807) : wrap64 n = n := by unfold wrap64; omega

theorem rd_get {l : List Int} {i : Nat} (h : i < l.length) : rd l (i : Int) = l[i] := by
 unfold rd; simp [h]

theorem rd_pm {n : Nat} {f : Nat → Nat} {i : Nat} (h : i < n) : rd (pm n f) (i : Int) = (f i : Int) := by
 unfold rd; exact pm_getD n f i h

/-- a list that is a permutation -/
def IsPerm (n : Nat) (l : List Int) (f : Nat → Nat) : Prop := 1 ≤ n ∧ n ≤ 12 ∧ Bij n f ∧ l = pm n f

theorem valid_iff (l : List Int) : impl_PermValid.validB l = true ↔ ∃ f, IsPerm l.length l f := by
 unfold impl_PermValid.validB
 simp only [Bool.and_eq_true, decide_eq_true_eq, List.all_eq_true, List.mem_range]
 constructor
 ·rintro ⟨⟨h1, h2⟩, h3⟩
  have h3' : ∀ i, i < l.length → 0 ≤ rd l i ∧ rd l i < l.length ∧ ∀ j, j < i → rd l j ≠ rd l i := by
   intro i hi
   have := h3 i hi
   unfold impl_PermValid.okAt at this
   simp only [Bool.and_eq_true, decide_eq_true_eq, Bool.not_eq_true', List.contains_eq_mem, decide_eq_false_iff_not] at this
   refine ⟨this.1.1, this.1.2, fun j hj e => this.2 ?_⟩
   rw [← e, rd_get (show j < l.length by omega)]
   rw [List.mem_iff_getElem]
   exact ⟨j, by simp; omega, by simp⟩
  refine ⟨fun i => (rd l i).toNat, h1, h2, ⟨fun i hi => by have := h3' i hi; show (rd l i).toNat < _; omega, fun i j hi hj e => ?_⟩, ?_⟩
  ·have a := h3' i hi
   have b := h3' j hj
   have e' : (rd l i).toNat = (rd l j).toNat := e
   rcases Nat.lt_trichotomy i j with c | c | c
   ·exact (b.2.2 i c (by omega)).elim
   ·exact c
   ·exact (a.2.2 j c (by omega)).elim
  ·refine eq_pm _ _ _ rfl fun i hi => ?_
   have := h3' i hi
   show l.getD i 0 = (((rd l i).toNat : Nat) : Int)
   have e : l.getD i 0 = rd l i := rfl
   omega
 ·rintro ⟨f, h1, h2, hf, e⟩
  refine ⟨⟨h1, h2⟩, fun i hi => ?_⟩
  have r : ∀ j, j < l.length → rd l j = (f j : Int) := fun j hj => by
   have := rd_pm (n := l.length) (f := f) hj
   rwa [← e] at this
  unfold impl_PermValid.okAt
  simp only [Bool.and_eq_true, decide_eq_true_eq, Bool.not_eq_true', List.contains_eq_mem, decide_eq_false_iff_not]
  refine ⟨⟨by rw [r i hi]; omega, by rw [r i hi]; have := hf.1 i hi; omega⟩, fun hm => ?_⟩
  rw [List.mem_iff_getElem] at hm
  obtain ⟨j, hj, ej⟩ := hm
  have hj' : j < i := by simp at hj; omega
  have : l[j]'(by omega) = rd l i := by simpa using ej
  rw [← rd_get (show j < l.length by omega), r i hi, r j (by omega)] at this
  have := hf.2 j i (by omega) hi (by omega)
  omega

theorem implValid_ev (l : List Int) : Ev (fun _ => impl_PermValid.f l) (impl_PermValid.validB l) := Ev.now _

/-- the reference's look: up to i all is well -/
theorem specValid_ev (l : List Int) (hl : l.length ≤ 4294967296) : Ev (fun k => spec_PermValid.f k l) (impl_PermValid.validB l) := by
 have e0 : ∀ (a b c : Int), spec_l6In.f a b c = some (decide (b ≤ a) && decide (a ≤ c)) := by
  intro a b c
  unfold spec_l6In.f
  by_cases h : b ≤ a
  ·rw [if_pos h]; simp [h]
  ·rw [if_neg h]; simp [h]
 -- the inner loop
 have inner : ∀ d i j, i < l.length → j + d = i → (∀ m, m < j → rd l m ≠ rd l i) → ∀ r, ((∀ m, m < i → rd l m ≠ rd l i) → Ev (fun k => spec_PermValid.l0 k l ((i + 1 : Nat) : Int)) r) → ((∃ m, m < i ∧ rd l m = rd l i) → r = false) → Ev (fun k => spec_PermValid.l1 k l (i : Int) (j : Int)) r := by
  intro d
  induction d with
  | zero =>
   intro i j hi hj hm r h1 h2
   refine Ev.step (f := fun k => spec_PermValid.l0 k l ((i + 1 : Nat) : Int)) (fun k => by rw [spec_PermValid.l1, if_neg (by omega), wrap_nat (by omega)]) ?_
   exact h1 (fun m hmi => hm m (by omega))
  | succ d ih =>
   intro i j hi hj hm r h1 h2
   by_cases c : rd l (j : Int) = rd l (i : Int)
   ·have := h2 ⟨j, by omega, c⟩
    subst this
    refine Ev.step (f := fun k => some false) (fun k => by
     rw [spec_PermValid.l1, if_pos (by omega), if_pos (by omega), if_pos (by omega), if_pos (by omega), if_pos (by omega), if_pos c]) (Ev.now _)
   ·refine Ev.step (f := fun k => spec_PermValid.l1 k l (i : Int) ((j + 1 : Nat) : Int)) (fun k => by
     rw [spec_PermValid.l1, if_pos (by omega), if_pos (by omega), if_pos (by omega), if_pos (by omega), if_pos (by omega), if_neg c, wrap_nat (by omega)]) ?_
    refine ih i (j + 1) hi (by omega) (fun m hm' => ?_) r h1 h2
    by_cases e : m = j
    ·subst e; exact c
    ·exact hm m (by omega)
 have outer : ∀ d i, i + d = l.length → (∀ m, m < i → impl_PermValid.okAt l m = true) → Ev (fun k => spec_PermValid.l0 k l (i : Int)) (impl_PermValid.validB l) := by
  intro d
  induction d with
  | zero =>
   intro i hi hm
   have e : impl_PermValid.validB l = (decide ((1 : Int) ≤ (l.length : Int)) && decide ((l.length : Int) ≤ 12)) := by
    unfold impl_PermValid.validB
    have : (List.range l.length).all (impl_PermValid.okAt l) = true := by
     rw [List.all_eq_true]; intro m hm'; exact hm m (by have := List.mem_range.1 hm'; omega)
    rw [this]
    rw [Bool.and_true]
    congr 1
    ·simp; omega
    ·simp; omega
   refine Ev.step (f := fun _ => some (impl_PermValid.validB l)) (fun k => by rw [spec_PermValid.l0, if_neg (by omega), e0, e]; rfl) (Ev.now _)
  | succ d ih =>
   intro i hi hm
   have hil : i < l.length := by omega
   have fail : impl_PermValid.okAt l i = false → impl_PermValid.validB l = false := impl_PermValid.valid_fail l i hil
   have ew : wrap64 ((l.length : Int) - 1) = (l.length : Int) - 1 := wrap_in (by omega) (by omega)
   by_cases c : 0 ≤ rd l (i : Int) ∧ rd l (i : Int) ≤ (l.length : Int) - 1
   ·refine Ev.step (f := fun k => spec_PermValid.l1 k l (i : Int) ((0 : Nat) : Int)) (fun k => by
     rw [spec_PermValid.l0, if_pos (by omega), if_pos (by omega), e0, ew]
     simp only [Option.bind_some]
     rw [if_pos (by simp [c.1, c.2])]; rfl) ?_
    refine inner i i 0 hil (by omega) (fun m hm' => absurd hm' (by omega)) _ (fun hd => ?_) (fun hd => ?_)
    ·refine ih (i + 1) (by omega) (fun m hm' => ?_)
     by_cases e : m = i
     ·subst e
      unfold impl_PermValid.okAt
      simp only [Bool.and_eq_true, decide_eq_true_eq, Bool.not_eq_true', List.contains_eq_mem, decide_eq_false_iff_not]
      refine ⟨⟨c.1, by omega⟩, fun hx => ?_⟩
      rw [List.mem_iff_getElem] at hx
      obtain ⟨j, hj, ej⟩ := hx
      have hj' : j < m := by simp at hj; omega
      have : l[j]'(by omega) = rd l m := by simpa using ej
      rw [← rd_get (show j < l.length by omega)] at this
      exact hd j hj' this
     ·exact hm m (by omega)
    ·obtain ⟨m, hmi, em⟩ := hd
     apply fail
     unfold impl_PermValid.okAt
     have : (l.take i).contains (rd l i) = true := by
      rw [List.contains_eq_mem, decide_eq_true_eq, ← em, rd_get (show m < l.length by omega), List.mem_iff_getElem]
      exact ⟨m, by simp; omega, by simp⟩
     simp only [this, Bool.not_true, Bool.and_false]
   ·have : impl_PermValid.validB l = false := by
     apply fail
     unfold impl_PermValid.okAt
     by_cases c1 : 0 ≤ rd l (i : Int)
     ·have : ¬ rd l (i : Int) < l.length := by omega
      simp [this]
     ·simp [c1]
    rw [this]
    refine Ev.step (f := fun k => some false) (fun k => by
     rw [spec_PermValid.l0, if_pos (by omega), if_pos (by omega), e0, ew]
     simp only [Option.bind_some]
     rw [if_neg]
     simp only [Bool.and_eq_true, decide_eq_true_eq]
     exact c) (Ev.now _)
 unfold spec_PermValid.f
 exact outer l.length 0 (by omega) (fun m hm => absurd hm (by omega))

theorem rd_set {s : List Int} {a b : Nat} {v : Int} (h : a < s.length) : rd (s.set a v) (b : Int) = if a = b then v else rd s (b : Int) := by
 unfold rd
 simp only [Int.toNat_natCast, List.getD_eq_getElem?_getD, List.getElem?_set]
 by_cases e : a = b
 ·subst e; simp [h]
 ·simp [e]

theorem eq_pm' {n : Nat} {f : Nat → Nat} {l : List Int} (hl : l.length = n) (h : ∀ i, i < n → rd l (i : Int) = (f i : Int)) : l = pm n f :=
 eq_pm n f l hl fun i hi => by have := h i hi; unfold rd at this; simpa using this

theorem still_ev {n : Nat} (hn : n ≤ 1000) : Ev (fun k => impl_still.f k (n : Int)) (pm n fun i => i) := by
 have loop : ∀ d i (s : List Int), i + d = n → s.length = n → (∀ j, j < i → rd s (j : Int) = (j : Int)) → Ev (fun k => impl_still.l0 k s (n : Int) (i : Int)) (pm n fun i => i) := by
  intro d
  induction d with
  | zero =>
   intro i s hi hs h
   refine Ev.step (f := fun _ => some s) (fun k => by rw [impl_still.l0, if_neg (by omega)]) ?_
   rw [eq_pm' (f := fun i => i) hs (fun j hj => h j (by omega))]
   exact Ev.now _
  | succ d ih =>
   intro i s hi hs h
   refine Ev.step (f := fun k => impl_still.l0 k (s.set i (i : Int)) (n : Int) ((i + 1 : Nat) : Int)) (fun k => by
    rw [impl_still.l0, if_pos (by omega), if_pos (by omega), if_pos (by omega), wrap_nat (by omega)]; rfl) ?_
   refine ih (i + 1) _ (by omega) (by simp [hs]) (fun j hj => ?_)
   rw [rd_set (by omega)]
   by_cases e : i = j
   ·rw [if_pos e, e]
   ·rw [if_neg e]; exact h j (by omega)
 unfold impl_still.f
 refine Ev.pos (by omega) (Ev.pos (by omega) ?_)
 have := loop n 0 (List.replicate n 0) (by omega) (by simp) (fun j hj => absurd hj (by omega))
 simpa using this

theorem l1Same_ev {n : Nat} (hn : n ≤ 1000) : Ev (fun k => spec_l1Same.f k (n : Int)) (pm n fun i => i) := by
 have loop : ∀ d i, i + d = n → Ev (fun k => spec_l1Same.l0 k (n : Int) (pm i fun i => i) (i : Int)) (pm n fun i => i) := by
  intro d
  induction d with
  | zero =>
   intro i hi
   have e : i = n := by omega
   subst e
   exact Ev.step (f := fun _ => some (pm i fun i => i)) (fun k => by rw [spec_l1Same.l0, if_neg (by omega)]) (Ev.now _)
  | succ d ih =>
   intro i hi
   refine Ev.step (f := fun k => spec_l1Same.l0 k (n : Int) (pm (i + 1) fun i => i) ((i + 1 : Nat) : Int)) (fun k => by
    rw [spec_l1Same.l0, if_pos (by omega), if_pos (by rw [pm_length]; omega), wrap_nat (by omega)]
    simp [pm, List.range_succ]) (ih (i + 1) (by omega))
 unfold spec_l1Same.f
 exact loop n 0 (by omega)

theorem mul_ev {n : Nat} {f g : Nat → Nat} (hn : n ≤ 1000) (hf : ∀ i, i < n → f i < n) : Ev (fun k => impl_mul.f k (pm n f) (pm n g)) (pm n fun i => g (f i)) := by
 have loop : ∀ d i (s : List Int), i + d = n → s.length = n → (∀ j, j < i → rd s (j : Int) = (g (f j) : Int)) → Ev (fun k => impl_mul.l0 k (pm n g) s (pm n f) (n : Int) (i : Int)) (pm n fun i => g (f i)) := by
  intro d
  induction d with
  | zero =>
   intro i s hi hs h
   refine Ev.step (f := fun _ => some s) (fun k => by rw [impl_mul.l0, if_neg (by omega)]) ?_
   rw [eq_pm' (f := fun i => g (f i)) hs (fun j hj => h j (by omega))]
   exact Ev.now _
  | succ d ih =>
   intro i s hi hs h
   have hfi := hf i (by omega)
   refine Ev.step (f := fun k => impl_mul.l0 k (pm n g) (s.set i (g (f i) : Int)) (pm n f) (n : Int) ((i + 1 : Nat) : Int)) (fun k => by
    rw [impl_mul.l0, if_pos (by omega), if_pos (by omega), if_pos (by rw [pm_length]; omega), rd_pm (by omega), if_pos (by omega), if_pos (by rw [pm_length]; omega), if_pos (by omega), wrap_nat (by omega), rd_pm hfi]; rfl) ?_
   refine ih (i + 1) _ (by omega) (by simp [hs]) (fun j hj => ?_)
   rw [rd_set (by omega)]
   by_cases e : i = j
   ·rw [if_pos e, e]
   ·rw [if_neg e]; exact h j (by omega)
 unfold impl_mul.f
 simp only [pm_length]
 refine Ev.pos (by omega) (Ev.pos (by omega) ?_)
 have := loop n 0 (List.replicate n 0) (by omega) (by simp) (fun j hj => absurd hj (by omega))
 simpa using this

/-- two lists that are permutations of as many points -/
def both (a b : List Int) : Bool := impl_PermValid.validB a && impl_PermValid.validB b && decide (a.length = b.length)

theorem both_iff (a b : List Int) : both a b = true ↔ ∃ n f g, IsPerm n a f ∧ IsPerm n b g := by
 unfold both
 simp only [Bool.and_eq_true, decide_eq_true_eq, valid_iff]
 constructor
 ·rintro ⟨⟨⟨f, hf⟩, g, hg⟩, e⟩
  rw [← e] at hg
  exact ⟨_, f, g, hf, hg⟩
 ·rintro ⟨n, f, g, hf, hg⟩
  have e1 : a.length = n := by rw [hf.2.2.2, pm_length]
  have e2 : b.length = n := by rw [hg.2.2.2, pm_length]
  rw [e1, e2]
  exact ⟨⟨⟨f, hf⟩, g, hg⟩, rfl⟩

theorem l1Both_ev {a b : List Int} (ha : a.length ≤ 4294967296) (hb : b.length ≤ 4294967296) : Ev (fun k => spec_l1Both.f k a b) (both a b) := by
 unfold spec_l1Both.f both
 refine Ev.bind1 (specValid_ev a ha) ?_
 cases c : impl_PermValid.validB a with
 | false => exact Ev.neg (by simp) (Ev.now _)
 | true =>
  refine Ev.pos rfl (Ev.bind1 (specValid_ev b hb) ?_)
  cases d : impl_PermValid.validB b with
  | false => exact Ev.neg (by simp) (Ev.now _)
  | true =>
   refine Ev.pos rfl ?_
   have : ((a.length : Int) == (b.length : Int)) = (true && true && decide (a.length = b.length)) := by
    by_cases e : a.length = b.length
    ·simp [e]
    ·have : ¬ (a.length : Int) = (b.length : Int) := by omega
     simp [e, this]
   rw [this]
   exact Ev.now _

def ints (l : List Nat) : List Int := l.map fun (x : Nat) => (x : Int)

def cycsTo (n : Nat) (f : Nat → Nat) (i : Nat) : List (List Int) := ((List.range i).filter (isMin n f)).map fun m => ints (cyc n f m)

/-- all cycles, as lists of numbers -/
def cycsL (n : Nat) (f : Nat → Nat) : List (List Int) := cycsTo n f n

theorem cycsL_length (n : Nat) (f : Nat → Nat) : (cycsL n f).length = cc n f := by simp [cycsL, cycsTo, cc]

theorem cycsTo_len (n : Nat) (f : Nat → Nat) (i : Nat) : (cycsTo n f i).length ≤ i := by
 unfold cycsTo
 rw [List.length_map]
 have := List.length_filter_le (isMin n f) (List.range i)
 simpa using this

def seenTo (n : Nat) (f : Nat → Nat) (i : Nat) (s : List Bool) : Prop := s.length = n ∧ ∀ x, x < n → (rdOf false s (x : Int) = true ↔ ∃ j, j < i ∧ orb f j x)

def seenIn (n : Nat) (f : Nat → Nat) (i k : Nat) (s : List Bool) : Prop := s.length = n ∧ ∀ x, x < n → (rdOf false s (x : Int) = true ↔ (∃ j, j < i ∧ orb f j x) ∨ ∃ m, m < k ∧ it f m i = x)

theorem rdOf_set {s : List Bool} {a b : Nat} {v : Bool} (h : a < s.length) : rdOf false (s.set a v) (b : Int) = if a = b then v else rdOf false s (b : Int) := by
 unfold rdOf
 simp only [Int.toNat_natCast, List.getD_eq_getElem?_getD, List.getElem?_set]
 by_cases e : a = b
 ·subst e; simp [h]
 ·simp [e]

theorem seen_start (n : Nat) (f : Nat → Nat) : seenTo n f 0 (List.replicate n false) := by
 refine ⟨by simp, fun x hx => ?_⟩
 unfold rdOf
 constructor
 ·intro h; simp [List.getD_eq_getElem?_getD, hx] at h
 ·rintro ⟨j, hj, _⟩; omega

theorem seen_in {n : Nat} {f : Nat → Nat} {i : Nat} {s : List Bool} (h : seenTo n f i s) : seenIn n f i 0 s :=
 ⟨h.1, fun x hx => by rw [h.2 x hx]; exact ⟨.inl, fun e => e.elim id (fun ⟨m, hm, _⟩ => absurd hm (by omega))⟩⟩

theorem seen_step {n : Nat} {f : Nat → Nat} (hf : Bij n f) {i k : Nat} (hi : i < n) {s : List Bool} (h : seenIn n f i k s) : seenIn n f i (k + 1) (s.set (it f k i) true) := by
 have hk := it_lt hf k hi
 refine ⟨by simp [h.1], fun x hx => ?_⟩
 rw [rdOf_set (by rw [h.1]; exact hk)]
 by_cases e : it f k i = x
 ·rw [if_pos e]
  exact ⟨fun _ => .inr ⟨k, by omega, e⟩, fun _ => rfl⟩
 ·rw [if_neg e, h.2 x hx]
  constructor
  ·rintro (a | ⟨m, hm, b⟩)
   ·exact .inl a
   ·exact .inr ⟨m, by omega, b⟩
  ·rintro (a | ⟨m, hm, b⟩)
   ·exact .inl a
   ·refine .inr ⟨m, ?_, b⟩
    apply Nat.lt_of_le_of_ne (by omega)
    intro d; subst d; exact e b

theorem seen_end {n : Nat} {f : Nat → Nat} (hf : Bij n f) {i : Nat} (hi : i < n) {s : List Bool} (h : seenIn n f i (per n f i) s) : seenTo n f (i + 1) s := by
 refine ⟨h.1, fun x hx => ?_⟩
 rw [h.2 x hx]
 constructor
 ·rintro (⟨j, hj, o⟩ | ⟨m, hm, e⟩)
  ·exact ⟨j, by omega, o⟩
  ·exact ⟨i, by omega, m, e⟩
 ·rintro ⟨j, hj, o⟩
  by_cases e : j = i
  ·subst e
   obtain ⟨m, em⟩ := o
   exact .inr ⟨m % per n f j, Nat.mod_lt _ (per_spec hf hi).1, by rw [← it_mod_per hf hi]; exact em⟩
  ·exact .inl ⟨j, by omega, o⟩

theorem seen_skip {n : Nat} {f : Nat → Nat} (hf : Bij n f) {i : Nat} (hi : i < n) {s : List Bool} (h : seenTo n f i s) (hs : rdOf false s (i : Int) = true) : seenTo n f (i + 1) s := by
 refine ⟨h.1, fun x hx => ?_⟩
 rw [h.2 x hx]
 obtain ⟨j, hj, o⟩ := (h.2 i hi).1 hs
 constructor
 ·rintro ⟨j, hj, o⟩; exact ⟨j, by omega, o⟩
 ·rintro ⟨j', hj', o'⟩
  by_cases e : j' = i
  ·subst e; exact ⟨j, hj, orb_trans o o'⟩
  ·exact ⟨j', by omega, o'⟩

theorem seen_min {n : Nat} {f : Nat → Nat} (hf : Bij n f) {i : Nat} (hi : i < n) {s : List Bool} (h : seenTo n f i s) : rdOf false s (i : Int) = !isMin n f i := by
 rw [Bool.eq_iff_iff, h.2 i hi, Bool.not_eq_true']
 constructor
 ·rintro ⟨j, hj, o⟩
  apply Bool.eq_false_iff.2
  intro m
  exact (isMin_iff' hf hi).1 m j hj o
 ·intro m
  apply Classical.byContradiction
  intro c
  have : isMin n f i = true := (isMin_iff' hf hi).2 fun j hj o => c ⟨j, hj, o⟩
  rw [m] at this; cases this

theorem seen_new {n : Nat} {f : Nat → Nat} (hf : Bij n f) {i k : Nat} (hi : i < n) {s : List Bool} (h : seenIn n f i k s) (hm : isMin n f i = true) (hk : k < per n f i) : rdOf false s (it f k i : Int) = false := by
 apply Bool.eq_false_iff.2
 intro c
 rcases (h.2 _ (it_lt hf k hi)).1 c with ⟨j, hj, o⟩ | ⟨m, hmk, e⟩
 ·exact (isMin_iff' hf hi).1 hm j hj (orb_trans o (orb_symm hf hi ⟨k, rfl⟩))
 ·have := it_inj_per hf hi (by omega) hk e
  omega

theorem seen_old {n : Nat} {f : Nat → Nat} (hf : Bij n f) {i : Nat} (hi : i < n) {s : List Bool} (h : seenIn n f i (per n f i) s) : rdOf false s (it f (per n f i) i : Int) = true := by
 have p := per_spec hf hi
 rw [p.2.2.1]
 exact (h.2 i hi).2 (.inr ⟨0, p.1, rfl⟩)

theorem cycsTo_succ (n : Nat) (f : Nat → Nat) (i : Nat) : cycsTo n f (i + 1) = if isMin n f i = true then cycsTo n f i ++ [ints (cyc n f i)] else cycsTo n f i := by
 unfold cycsTo
 rw [List.range_succ, List.filter_append, List.map_append]
 by_cases c : isMin n f i = true
 ·simp [c]
 ·simp [c]

def cycTo (f : Nat → Nat) (i k : Nat) : List Int := ints ((List.range k).map fun m => it f m i)

theorem cycTo_succ (f : Nat → Nat) (i k : Nat) : cycTo f i (k + 1) = cycTo f i k ++ [(it f k i : Int)] := by simp [cycTo, ints, List.range_succ]

theorem cycTo_len (f : Nat → Nat) (i k : Nat) : (cycTo f i k).length = k := by simp [cycTo, ints]

theorem implCycles_ev {n : Nat} {f : Nat → Nat} (hn : n ≤ 1000) (hf : Bij n f) : Ev (fun k => impl_cyclesOf.f k (pm n f)) (cycsL n f) := by
 have outer : ∀ d i (s : List Bool), i + d = n → seenTo n f i s → Ev (fun k => impl_cyclesOf.l0 k (pm n f) (cycsTo n f i) s (n : Int) (i : Int)) (cycsL n f) := by
  intro d
  induction d with
  | zero =>
   intro i s hi hs
   have e : i = n := by omega
   subst e
   exact Ev.step (f := fun _ => some (cycsTo i f i)) (fun k => by rw [impl_cyclesOf.l0, if_neg (by omega)]) (Ev.now _)
  | succ d ih =>
   intro i s hi hs
   have hin : i < n := by omega
   have cl := cycsTo_len n f i
   refine Ev.step (f := fun k => impl_cyclesOf.l1 k (pm n f) (cycsTo n f i) s [] (i : Int) (n : Int) (i : Int)) (fun k => by rw [impl_cyclesOf.l0, if_pos (by omega)]) ?_
   by_cases hm : isMin n f i = true
   ·have inner : ∀ e k (s : List Bool), k + e = per n f i → seenIn n f i k s → Ev (fun q => impl_cyclesOf.l1 q (pm n f) (cycsTo n f i) s (cycTo f i k) (it f k i : Int) (n : Int) (i : Int)) (cycsL n f) := by
     intro e
     induction e with
     | zero =>
      intro k s hk hs
      have ek : k = per n f i := by omega
      subst ek
      have p := per_spec hf hin
      have ho := seen_old hf hin hs
      refine Ev.step (f := fun q => impl_cyclesOf.l0 q (pm n f) (cycsTo n f (i + 1)) s (n : Int) ((i + 1 : Nat) : Int)) (fun q => by
       rw [impl_cyclesOf.l1, if_pos (by omega), if_pos (by rw [hs.1]; have := it_lt hf (per n f i) hin; omega), if_pos ho, if_pos (by rw [cycTo_len]; omega), if_pos (by omega), wrap_nat (by omega), cycsTo_succ, if_pos hm]; rfl) ?_
      exact ih (i + 1) s (by omega) (seen_end hf hin hs)
     | succ e ihe =>
      intro k s hk hs
      have hkn := it_lt hf k hin
      have p := per_spec hf hin
      have hnew := seen_new hf hin hs hm (by omega)
      refine Ev.step (f := fun q => impl_cyclesOf.l1 q (pm n f) (cycsTo n f i) (s.set (it f k i) true) (cycTo f i (k + 1)) (it f (k + 1) i : Int) (n : Int) (i : Int)) (fun q => by
       rw [impl_cyclesOf.l1, if_pos (by omega), if_pos (by rw [hs.1]; omega), if_neg (by rw [hnew]; simp), if_pos (by rw [cycTo_len]; omega), if_pos (by rw [pm_length]; omega), rd_pm hkn, cycTo_succ]; rfl) ?_
      exact ihe (k + 1) _ (by omega) (seen_step hf hin hs)
    exact inner (per n f i) 0 s (by omega) (seen_in hs)
   ·have ht : rdOf false s (i : Int) = true := by rw [seen_min hf hin hs]; simp [hm]
    refine Ev.step (f := fun q => impl_cyclesOf.l0 q (pm n f) (cycsTo n f (i + 1)) s (n : Int) ((i + 1 : Nat) : Int)) (fun q => by
     rw [impl_cyclesOf.l1, if_pos (by omega), if_pos (by rw [hs.1]; omega), if_pos ht, if_neg (by simp), wrap_nat (by omega), cycsTo_succ, if_neg hm]) ?_
    exact ih (i + 1) s (by omega) (seen_skip hf hin hs ht)
 unfold impl_cyclesOf.f
 simp only [pm_length]
 refine Ev.pos (by omega) (Ev.pos (by omega) ?_)
 have := outer n 0 _ (by omega) (seen_start n f)
 simpa [cycsTo] using this

theorem isPerm_rd {n : Nat} {a : List Int} {f : Nat → Nat} (h : IsPerm n a f) : ∀ i, i < n → (rd a (i : Int)).toNat = f i := by
 intro i hi; rw [h.2.2.2, rd_pm hi]; simp

theorem isPerm_len {n : Nat} {a : List Int} {f : Nat → Nat} (h : IsPerm n a f) : a.length = n := by rw [h.2.2.2, pm_length]

theorem isPerm_valid {n : Nat} {a : List Int} {f : Nat → Nat} (h : IsPerm n a f) : impl_PermValid.validB a = true :=
 (valid_iff a).2 ⟨f, by rw [isPerm_len h]; exact h⟩

theorem mn_nat (a b : Nat) : mn (a : Int) (b : Int) = ((min a b : Nat) : Int) := by
 unfold mn
 rcases Nat.lt_or_ge b a with c | c
 ·rw [if_pos (by omega), Nat.min_def, if_neg (by omega)]
 ·rw [if_neg (by omega), Nat.min_def, if_pos c]

/-- o where i and j are told the number v -/
def up2 (o : Nat → Nat) (i j v : Nat) (x : Nat) : Nat := if j = x then v else if i = x then v else o x

theorem set2_pm {n : Nat} {o : Nat → Nat} {i j v : Nat} (hi : i < n) (hj : j < n) : ((pm n o).set i (v : Int)).set j (v : Int) = pm n (up2 o i j v) := by
 refine eq_pm' (by simp [pm_length]) fun x hx => ?_
 rw [rd_set (by simp [pm_length]; exact hj), rd_set (by rw [pm_length]; exact hi), rd_pm hx]
 unfold up2
 by_cases c : j = x
 ·simp [c]
 ·by_cases d : i = x
  ·simp [c, d]
  ·simp [c, d]

/-- what stays true of o -/
structure Oks (n : Nat) (a b o : Nat → Nat) : Prop where
 le : ∀ x, x < n → o x ≤ x
 conn : ∀ x, x < n → conn n a b x (o x)

theorem Oks.start (n : Nat) (a b : Nat → Nat) : Oks n a b (fun i => i) := ⟨fun _ _ => Nat.le_refl _, fun x _ => conn_refl n a b x⟩

theorem Oks.up {n : Nat} {a b o : Nat → Nat} (h : Oks n a b o) {i j : Nat} (hi : i < n) (hj : j < n) (hc : Sm.conn n a b i j) : Oks n a b (up2 o i j (min (o i) (o j))) := by
 have ci : Sm.conn n a b i (min (o i) (o j)) := by
  rw [Nat.min_def]
  split
  ·exact h.conn i hi
  ·exact conn_trans hc (h.conn j hj)
 refine ⟨fun x hx => ?_, fun x hx => ?_⟩
 ·unfold up2
  have e1 := h.le i hi
  have e2 := h.le j hj
  have m1 : min (o i) (o j) ≤ o i := Nat.min_le_left _ _
  have m2 : min (o i) (o j) ≤ o j := Nat.min_le_right _ _
  split
  ·omega
  ·split
   ·omega
   ·exact h.le x hx
 ·unfold up2
  split
  ·rename_i e; subst e; exact conn_trans (conn_symm hc) ci
  ·split
   ·rename_i e; subst e; exact ci
   ·exact h.conn x hx

def total (o : Nat → Nat) : Nat → Nat
 | 0 => 0
 | n + 1 => total o n + o n

theorem total_le {o o' : Nat → Nat} {n : Nat} (h : ∀ x, x < n → o' x ≤ o x) : total o' n ≤ total o n := by
 induction n with
 | zero => exact Nat.le_refl _
 | succ n ih =>
  have := ih (fun x hx => h x (by omega))
  have := h n (by omega)
  simp only [total]; omega

theorem total_lt {o o' : Nat → Nat} {n : Nat} (h : ∀ x, x < n → o' x ≤ o x) {y : Nat} (hy : y < n) (hlt : o' y < o y) : total o' n < total o n := by
 induction n with
 | zero => omega
 | succ n ih =>
  simp only [total]
  by_cases c : y = n
  ·subst c
   have := total_le (o := o) (o' := o') (n := y) (fun x hx => h x (by omega))
   omega
  ·have := ih (fun x hx => h x (by omega)) (by omega)
   have := h n (by omega)
   omega

theorem up2_le {o : Nat → Nat} {i j : Nat} (x : Nat) : up2 o i j (min (o i) (o j)) x ≤ o x := by
 unfold up2
 have m1 : min (o i) (o j) ≤ o i := Nat.min_le_left _ _
 have m2 : min (o i) (o j) ≤ o j := Nat.min_le_right _ _
 split
 ·rename_i e; subst e; exact m2
 ·split
  ·rename_i e; subst e; exact m1
  ·exact Nat.le_refl _

def OrbEnd (n : Nat) (a b : Nat → Nat) (r : List Int) : Prop := ∃ o, IsOrb n a b o ∧ r = pm n o

/-- one way through a permutation -/
theorem orbits_pass {n : Nat} {a b p : Nat → Nat} (hn : n ≤ 1000) (hp : Bij n p) (hc : ∀ i, i < n → conn n a b i (p i)) (q : Nat) (ls : List (List Int)) :
 ∀ d i (o o0 : Nat → Nat) (fl : Bool), i + d = n → Oks n a b o →
  (∀ x, x < n → o x ≤ o0 x) → (fl = false → ∀ x, x < n → o x = o0 x) → (fl = true → total o n < total o0 n) → (fl = false → ∀ x, x < i → o (p x) = o x) →
  (∀ o' fl', Oks n a b o' → (∀ x, x < n → o' x ≤ o0 x) → (fl' = false → ∀ x, x < n → o' x = o0 x) → (fl' = true → total o' n < total o0 n) → (fl' = false → ∀ x, x < n → o' (p x) = o' x) → (fl = true → fl' = true) →
   ∃ r, OrbEnd n a b r ∧ Ev (fun k => impl_orbits.l1 k ls (pm n o') fl' ls (ls.length : Int) (wrap64 ((q : Int) + 1))) r) →
  ∃ r, OrbEnd n a b r ∧ Ev (fun k => impl_orbits.l2 k ls (pm n o) fl ls (ls.length : Int) (q : Int) (pm n p) (n : Int) (i : Int)) r := by
 intro d
 induction d with
 | zero =>
  intro i o o0 fl hi ho h1 h2 h3 h4 hnext
  have e : i = n := by omega
  subst e
  obtain ⟨r, hr, ev⟩ := hnext o fl ho h1 h2 h3 h4 id
  exact ⟨r, hr, Ev.step (fun k => by rw [impl_orbits.l2, if_neg (by omega)]) ev⟩
 | succ d ih =>
  intro i o o0 fl hi ho h1 h2 h3 h4 hnext
  have hin : i < n := by omega
  have hpi := hp.1 i hin
  have ei : rd (pm n o) (i : Int) = (o i : Int) := rd_pm hin
  have ep : rd (pm n p) (i : Int) = (p i : Int) := rd_pm hin
  have eo : rd (pm n o) ((p i : Nat) : Int) = (o (p i) : Int) := rd_pm hpi
  have head : ∀ k, impl_orbits.l2 (k + 1) ls (pm n o) fl ls (ls.length : Int) (q : Int) (pm n p) (n : Int) (i : Int) =
   if o i = o (p i) then impl_orbits.l2 k ls (pm n o) fl ls (ls.length : Int) (q : Int) (pm n p) (n : Int) ((i + 1 : Nat) : Int)
   else impl_orbits.l2 k ls (pm n (up2 o i (p i) (min (o i) (o (p i))))) true ls (ls.length : Int) (q : Int) (pm n p) (n : Int) ((i + 1 : Nat) : Int) := by
   intro k
   rw [impl_orbits.l2, if_pos (by omega), if_pos (by omega), if_pos (by rw [pm_length]; omega), if_pos (by rw [pm_length]; omega), ep, if_pos (by omega), if_pos (by rw [pm_length]; omega), ei, eo, mn_nat, wrap_nat (by omega)]
   have es : ((pm n o).set (i : Int).toNat ((min (o i) (o (p i)) : Nat) : Int)).set ((p i : Nat) : Int).toNat ((min (o i) (o (p i)) : Nat) : Int) = pm n (up2 o i (p i) (min (o i) (o (p i)))) := set2_pm hin hpi
   rw [es]
   have m' : min (o i) (o (p i)) = if o i ≤ o (p i) then o i else o (p i) := Nat.min_def
   rw [m']
   by_cases c : o i = o (p i)
   ·rw [if_pos c, if_pos (by split <;> omega), if_pos (by split <;> omega)]
   ·rw [if_neg c]
    by_cases c2 : o i ≤ o (p i)
    ·rw [if_pos c2, if_pos rfl, if_neg (by omega)]
    ·rw [if_neg c2, if_neg (by omega)]
  by_cases c : o i = o (p i)
  ·obtain ⟨r, hr, ev⟩ := ih (i + 1) o o0 fl (by omega) ho h1 h2 h3 (fun e x hx => by
    by_cases d : x = i
    ·subst d; exact c.symm
    ·exact h4 e x (by omega)) hnext
   exact ⟨r, hr, Ev.step (fun k => by rw [head k, if_pos c]) ev⟩
  ·have ho' := ho.up hin hpi (hc i hin)
   have hlt : total (up2 o i (p i) (min (o i) (o (p i)))) n < total o0 n := by
    have a1 := total_le (o := o0) (o' := o) (n := n) h1
    have m' : min (o i) (o (p i)) = if o i ≤ o (p i) then o i else o (p i) := Nat.min_def
    by_cases c2 : o i ≤ o (p i)
    ·have := total_lt (o := o) (o' := up2 o i (p i) (min (o i) (o (p i)))) (n := n) (fun x _ => up2_le x) hpi (by
      unfold up2; rw [if_pos rfl, m', if_pos c2]; omega)
     omega
    ·have := total_lt (o := o) (o' := up2 o i (p i) (min (o i) (o (p i)))) (n := n) (fun x _ => up2_le x) hin (by
      unfold up2; rw [m', if_neg c2]; split
      ·omega
      ·rw [if_pos rfl]; omega)
     omega
   obtain ⟨r, hr, ev⟩ := ih (i + 1) (up2 o i (p i) (min (o i) (o (p i)))) o0 true (by omega) ho' (fun x hx => Nat.le_trans (up2_le x) (h1 x hx)) (fun e => by cases e) (fun _ => hlt) (fun e => by cases e) (fun o' fl' q1 q2 q3 q4 q5 q6 => hnext o' fl' q1 q2 q3 q4 q5 (fun _ => q6 rfl))
   exact ⟨r, hr, Ev.step (fun k => by rw [head k, if_neg c]) ev⟩

theorem implOrbits_ex {n : Nat} {a b : Nat → Nat} (hn : n ≤ 1000) (h1 : 1 ≤ n) (ha : Bij n a) (hb : Bij n b) : ∃ o, IsOrb n a b o ∧ Ev (fun k => impl_orbits.f k [pm n a, pm n b]) (pm n o) := by
 have loop : ∀ t (o : Nat → Nat), total o n ≤ t → Oks n a b o → ∃ r, OrbEnd n a b r ∧ Ev (fun k => impl_orbits.l0 k [pm n a, pm n b] (pm n o) true) r := by
  intro t
  induction t using Nat.strongRecOn with
  | _ t ih =>
   intro o ht ho
   have r0 : rd_L1 [pm n a, pm n b] ((0 : Nat) : Int) = pm n a := rfl
   have r1 : rd_L1 [pm n a, pm n b] ((1 : Nat) : Int) = pm n b := rfl
   obtain ⟨r, hr, ev⟩ := orbits_pass (a := a) (b := b) hn ha (fun i hi => conn_a hi) 0 [pm n a, pm n b] n 0 o o false (by omega) ho (fun _ _ => Nat.le_refl _) (fun _ _ _ => rfl) (fun e => by cases e) (fun _ x hx => absurd hx (by omega)) (fun o1 f1 ho1 l1 e1 t1 p1 _ => by
    obtain ⟨r, hr, ev⟩ := orbits_pass (a := a) (b := b) hn hb (fun i hi => conn_b hi) 1 [pm n a, pm n b] n 0 o1 o f1 (by omega) ho1 l1 e1 t1 (fun _ x hx => absurd hx (by omega)) (fun o2 f2 ho2 l2 e2 t2 p2 k2 => by
     have w2 : wrap64 (((1 : Nat) : Int) + 1) = 2 := by unfold wrap64; omega
     cases hf2 : f2 with
     | true =>
      have tl := t2 hf2
      obtain ⟨r, hr, ev⟩ := ih (total o2 n) (by omega) o2 (Nat.le_refl _) ho2
      refine ⟨r, hr, Ev.step (fun k => ?_) ev⟩
      rw [w2, impl_orbits.l1, if_neg (by simp)]
     | false =>
      have e2' := e2 hf2
      have f1f : f1 = false := by
       cases hf1 : f1 with
       | false => rfl
       | true => have := k2 hf1; rw [hf2] at this; cases this
      have e1' := e1 f1f
      have inv : IsOrb n a b o2 := ⟨fun x hx => ⟨by
       rw [e2' _ (ha.1 x hx), e2' x hx, ← e1' _ (ha.1 x hx), ← e1' x hx]; exact p1 f1f x hx, p2 hf2 x hx⟩, ho2.le, ho2.conn⟩
      refine ⟨pm n o2, ⟨o2, inv, rfl⟩, ?_⟩
      refine Ev.step (f := fun k => impl_orbits.l0 k [pm n a, pm n b] (pm n o2) false) (fun k => by rw [w2, impl_orbits.l1, if_neg (by simp)]) ?_
      exact Ev.step (f := fun _ => some (pm n o2)) (fun k => by rw [impl_orbits.l0, if_neg (by simp)]) (Ev.now _))
    refine ⟨r, hr, Ev.step (fun k => ?_) ev⟩
    have w1 : wrap64 (((0 : Nat) : Int) + 1) = ((1 : Nat) : Int) := by unfold wrap64; omega
    rw [w1, impl_orbits.l1, if_pos (by simp), if_pos (by omega), if_pos (by simp), r1, pm_length]; rfl)
   refine ⟨r, hr, ?_⟩
   refine Ev.step (f := fun k => impl_orbits.l1 k [pm n a, pm n b] (pm n o) false [pm n a, pm n b] (([pm n a, pm n b] : List (List Int)).length : Int) 0) (fun k => by rw [impl_orbits.l0, if_pos rfl]) ?_
   refine Ev.step (fun k => ?_) ev
   have : (0 : Int) = ((0 : Nat) : Int) := rfl
   rw [this, impl_orbits.l1, if_pos (by simp), if_pos (by omega), if_pos (by simp), r0, pm_length]; rfl
 obtain ⟨r, ⟨o, ho, rfl⟩, ev⟩ := loop (total (fun i => i) n) (fun i => i) (Nat.le_refl _) (Oks.start n a b)
 refine ⟨o, ho, ?_⟩
 unfold impl_orbits.f
 refine Ev.pos (by simp) ?_
 have e : ((rd_L1 [pm n a, pm n b] 0).length : Int) = (n : Int) := by
  show ((pm n a).length : Int) = _; rw [pm_length]
 rw [e]
 exact Ev.bind1 (still_ev hn) ev

def up3 (o : Nat → Nat) (i j k v : Nat) (x : Nat) : Nat := if k = x then v else if j = x then v else if i = x then v else o x

theorem set3_pm {n : Nat} {o : Nat → Nat} {i j k v : Nat} (hi : i < n) (hj : j < n) (hk : k < n) : (((pm n o).set i (v : Int)).set j (v : Int)).set k (v : Int) = pm n (up3 o i j k v) := by
 refine eq_pm' (by simp [pm_length]) fun x hx => ?_
 rw [rd_set (by simp [pm_length]; exact hk), rd_set (by simp [pm_length]; exact hj), rd_set (by rw [pm_length]; exact hi), rd_pm hx]
 unfold up3
 by_cases c : k = x
 ·simp [c]
 ·by_cases d : j = x
  ·simp [c, d]
  ·by_cases e : i = x
   ·simp [c, d, e]
   ·simp [c, d, e]

/-- between the least point and the start -/
structure Between (n : Nat) (a b O o : Nat → Nat) : Prop where
 low : ∀ x, x < n → O x ≤ o x
 high : ∀ x, x < n → o x ≤ x

def lowest (o a b : Nat → Nat) (i : Nat) : Nat := min (o i) (min (o (a i)) (o (b i)))

theorem Between.up {n : Nat} {a b O o : Nat → Nat} (ha : Bij n a) (hb : Bij n b) (hO : IsOrb n a b O) (h : Between n a b O o) {i : Nat} (hi : i < n) :
 Between n a b O (up3 o i (a i) (b i) (lowest o a b i)) ∧ (∀ x, up3 o i (a i) (b i) (lowest o a b i) x ≤ o x) ∧ (o i = O i → up3 o i (a i) (b i) (lowest o a b i) (a i) = O (a i) ∧ up3 o i (a i) (b i) (lowest o a b i) (b i) = O (b i)) := by
 have l1 := h.low i hi
 have l2 := h.low _ (ha.1 i hi)
 have l3 := h.low _ (hb.1 i hi)
 have k1 := (hO.keep i hi).1
 have k2 := (hO.keep i hi).2
 have vlow : O i ≤ lowest o a b i := by unfold lowest; omega
 have v1 : lowest o a b i ≤ o i := by unfold lowest; omega
 have v2 : lowest o a b i ≤ o (a i) := by unfold lowest; omega
 have v3 : lowest o a b i ≤ o (b i) := by unfold lowest; omega
 have le : ∀ x, up3 o i (a i) (b i) (lowest o a b i) x ≤ o x := by
  intro x; unfold up3
  split
  ·rename_i e; rw [← e]; exact v3
  ·split
   ·rename_i e; rw [← e]; exact v2
   ·split
    ·rename_i e; rw [← e]; exact v1
    ·exact Nat.le_refl _
 refine ⟨⟨fun x hx => ?_, fun x hx => Nat.le_trans (le x) (h.high x hx)⟩, le, fun e => ?_⟩
 ·unfold up3
  split
  ·rename_i e; rw [← e, k2]; exact vlow
  ·split
   ·rename_i e; rw [← e, k1]; exact vlow
   ·split
    ·rename_i e; rw [← e]; exact vlow
    ·exact h.low x hx
 ·have v : lowest o a b i = O i := by omega
  constructor
  ·unfold up3
   split
   ·rw [v, k1]
   ·rw [if_pos rfl, v, k1]
  ·unfold up3
   rw [if_pos rfl, v, k2]

theorem specOrbits_round {n : Nat} {a b O : Nat → Nat} (hn : n ≤ 1000) (ha : Bij n a) (hb : Bij n b) (hO : IsOrb n a b O) (q : Nat) (r : List Int) (o0 : Nat → Nat) :
 ∀ d i (o : Nat → Nat), i + d = n → Between n a b O o → (∀ x, o x ≤ o0 x) → (∀ x, x < i → o0 x = O x → o (a x) = O (a x) ∧ o (b x) = O (b x)) →
  (∀ o', Between n a b O o' → (∀ x, o' x ≤ o0 x) → (∀ x, x < n → o0 x = O x → o' (a x) = O (a x) ∧ o' (b x) = O (b x)) → Ev (fun k => spec_l1Orbits.l0 k (pm n a) (pm n b) (pm n o') (wrap64 ((q : Int) + 1))) r) →
  Ev (fun k => spec_l1Orbits.l1 k (pm n a) (pm n b) (pm n o) (q : Int) (i : Int)) r := by
 intro d
 induction d with
 | zero =>
  intro i o hi ho h1 h2 hnext
  have e : i = n := by omega
  subst e
  exact Ev.step (fun k => by rw [spec_l1Orbits.l1, if_neg (by rw [pm_length]; omega)]) (hnext o ho h1 h2)
 | succ d ih =>
  intro i o hi ho h1 h2 hnext
  have hin : i < n := by omega
  have hai := ha.1 i hin
  have hbi := hb.1 i hin
  have ei : rd (pm n o) (i : Int) = (o i : Int) := rd_pm hin
  have ea : rd (pm n a) (i : Int) = (a i : Int) := rd_pm hin
  have eb : rd (pm n b) (i : Int) = (b i : Int) := rd_pm hin
  have eoa : rd (pm n o) ((a i : Nat) : Int) = (o (a i) : Int) := rd_pm hai
  have eob : rd (pm n o) ((b i : Nat) : Int) = (o (b i) : Int) := rd_pm hbi
  obtain ⟨u1, u2, u3⟩ := ho.up ha hb hO hin
  have es : (((pm n o).set (i : Int).toNat ((lowest o a b i : Nat) : Int)).set ((a i : Nat) : Int).toNat ((lowest o a b i : Nat) : Int)).set ((b i : Nat) : Int).toNat ((lowest o a b i : Nat) : Int) = pm n (up3 o i (a i) (b i) (lowest o a b i)) := set3_pm hin hai hbi
  refine Ev.step (f := fun k => spec_l1Orbits.l1 k (pm n a) (pm n b) (pm n (up3 o i (a i) (b i) (lowest o a b i))) (q : Int) ((i + 1 : Nat) : Int)) (fun k => by
   rw [spec_l1Orbits.l1, if_pos (by rw [pm_length]; omega), if_pos (by omega), if_pos (by rw [pm_length]; omega), ea, if_pos (by omega), if_pos (by rw [pm_length]; omega), if_pos (by rw [pm_length]; omega), eb, if_pos (by omega), if_pos (by rw [pm_length]; omega), ei, eoa, eob, mn_nat, mn_nat, wrap_nat (by omega)]
   have es' := es
   unfold lowest at es' ⊢
   rw [es']) ?_
  refine ih (i + 1) _ (by omega) u1 (fun x => Nat.le_trans (u2 x) (h1 x)) (fun x hx hxo => ?_) hnext
  by_cases e : x = i
  ·subst e
   have := ho.low x hin
   have := h1 x
   exact u3 (by omega)
  ·obtain ⟨p1, p2⟩ := h2 x (by omega) hxo
   have hx' : x < n := by omega
   have q1 := u2 (a x)
   have q2 := u1.low _ (ha.1 x hx')
   have q3 := u2 (b x)
   have q4 := u1.low _ (hb.1 x hx')
   exact ⟨by omega, by omega⟩

/-- how many points tell their least one -/
def right (n : Nat) (O o : Nat → Nat) : Nat := (List.range n).countP fun x => o x == O x

theorem right_full {n : Nat} {O o : Nat → Nat} (h : right n O o = n) : ∀ x, x < n → o x = O x := by
 unfold right at h
 have : (List.range n).countP (fun x => o x == O x) = (List.range n).length := by rw [h, List.length_range]
 rw [List.countP_eq_length] at this
 intro x hx
 simpa using this x (by simpa using hx)

theorem right_grows {n : Nat} {a b O o o' : Nat → Nat} (ha : Bij n a) (hb : Bij n b) (hO : IsOrb n a b O) (h : Between n a b O o) (h' : Between n a b O o') (le : ∀ x, o' x ≤ o x)
 (st : ∀ x, x < n → o x = O x → o' (a x) = O (a x) ∧ o' (b x) = O (b x)) (hlt : right n O o < n) : right n O o < right n O o' := by
 have keep : ∀ x, x < n → o x = O x → o' x = O x := fun x hx e => by
  have := h'.low x hx; have := le x; omega
 -- a point that is not right yet
 have ex : ∃ x, x < n ∧ o x ≠ O x := by
  apply Classical.byContradiction
  intro c
  have : right n O o = n := by
   unfold right
   rw [List.countP_eq_length.2, List.length_range]
   intro x hx
   simp
   apply Classical.byContradiction
   intro d
   exact c ⟨x, by simpa using hx, d⟩
  omega
 obtain ⟨x, hx, hxo⟩ := ex
 have hm := hO.lt hx
 have om : o (O x) = O (O x) := by
  have i := hO.idem hx
  have := h.low _ hm
  have := h.high _ hm
  omega
 -- an edge out of the right ones
 have ex2 : ∃ u, u < n ∧ o u ≠ O u ∧ o' u = O u := by
  apply Classical.byContradiction
  intro c
  have cl : ∀ y, y < n → o y = O y → o (a y) = O (a y) ∧ o (b y) = O (b y) := by
   intro y hy e
   obtain ⟨s1, s2⟩ := st y hy e
   constructor
   ·apply Classical.byContradiction; intro d; exact c ⟨a y, ha.1 y hy, d, s1⟩
   ·apply Classical.byContradiction; intro d; exact c ⟨b y, hb.1 y hy, d, s2⟩
  exact hxo (conn_closed ha hb (fun y => o y = O y) (fun y hy e => (cl y hy e).1) (fun y hy e => (cl y hy e).2) (conn_symm (hO.conn x hx)) om)
 obtain ⟨u, hu, u1, u2⟩ := ex2
 unfold right
 have split : ∀ l : List Nat, (∀ y, y ∈ l → y < n) → l.countP (fun x => o x == O x) ≤ l.countP (fun x => o' x == O x) ∧ (u ∈ l → l.countP (fun x => o x == O x) < l.countP (fun x => o' x == O x)) := by
  intro l
  induction l with
  | nil => intro _; exact ⟨Nat.le_refl _, fun h => by simp at h⟩
  | cons y l ih =>
   intro hl
   obtain ⟨i1, i2⟩ := ih (fun z hz => hl z (by simp [hz]))
   have hy := hl y (by simp)
   rw [List.countP_cons, List.countP_cons]
   have mono : (if (o y == O y) = true then 1 else 0) ≤ (if (o' y == O y) = true then 1 else 0) := by
    by_cases e : o y = O y
    ·have := keep y hy e; simp [e, this]
    ·simp [e]
   refine ⟨by omega, fun hm => ?_⟩
   by_cases e : u = y
   ·subst e
    simp [u1, u2]; omega
   ·have := i2 (by simpa [e] using hm)
    omega
 exact (split (List.range n) (fun y hy => by simpa using hy)).2 (by simpa using hu)

theorem specOrbits_ev {n : Nat} {a b O : Nat → Nat} (hn : n ≤ 1000) (ha : Bij n a) (hb : Bij n b) (hO : IsOrb n a b O) : Ev (fun k => spec_l1Orbits.f k (pm n a) (pm n b)) (pm n O) := by
 have loop : ∀ d q (o : Nat → Nat), q + d = n → Between n a b O o → q ≤ right n O o → Ev (fun k => spec_l1Orbits.l0 k (pm n a) (pm n b) (pm n o) (q : Int)) (pm n O) := by
  intro d
  induction d with
  | zero =>
   intro q o hq ho hr
   have e : pm n o = pm n O := by
    rw [pm_ext]
    have : right n O o ≤ n := by
     unfold right
     have := List.countP_le_length (p := fun x => o x == O x) (l := List.range n)
     simpa using this
    exact right_full (by omega)
   rw [e]
   exact Ev.step (f := fun _ => some (pm n O)) (fun k => by rw [spec_l1Orbits.l0, if_neg (by rw [pm_length]; omega)]) (Ev.now _)
  | succ d ih =>
   intro q o hq ho hr
   refine Ev.step (f := fun k => spec_l1Orbits.l1 k (pm n a) (pm n b) (pm n o) (q : Int) ((0 : Nat) : Int)) (fun k => by
    rw [spec_l1Orbits.l0, if_pos (by rw [pm_length]; omega)]; rfl) ?_
   refine specOrbits_round hn ha hb hO q (pm n O) o n 0 o (by omega) ho (fun _ => Nat.le_refl _) (fun x hx => absurd hx (by omega)) (fun o' h1 h2 h3 => ?_)
   rw [wrap_nat (by omega)]
   refine ih (q + 1) o' (by omega) h1 ?_
   by_cases c : right n O o < n
   ·have := right_grows ha hb hO ho h1 h2 h3 c
    omega
   ·have le : right n O o ≤ n := by
     unfold right
     have := List.countP_le_length (p := fun x => o x == O x) (l := List.range n)
     simpa using this
    have full := right_full (n := n) (O := O) (o := o) (by omega)
    have : right n O o' = n := by
     unfold right
     rw [List.countP_eq_length.2, List.length_range]
     intro x hx
     have hx' : x < n := by simpa using hx
     have := full x hx'
     have := h1.low x hx'
     have := h2 x
     simp; omega
    omega
 unfold spec_l1Orbits.f
 rw [pm_length]
 refine Ev.bind1 (l1Same_ev hn) ?_
 exact loop n 0 (fun i => i) (by omega) ⟨fun x hx => hO.le x hx, fun _ _ => Nat.le_refl _⟩ (Nat.zero_le _)

theorem xor_i64_nat (a b : Nat) (ha : a < 9223372036854775808) (hb : b < 9223372036854775808) : Go.bits .xor .i64 (a : Int) (b : Int) = ((a ^^^ b : Nat) : Int) := by
 have hx : a ^^^ b < 2 ^ 63 := Nat.xor_lt_two_pow (by omega) (by omega)
 have h1 : (BitVec.ofInt 64 (a : Int)).toNat = a := by
  rw [BitVec.ofInt_natCast, BitVec.toNat_ofNat]; exact Nat.mod_eq_of_lt (by omega)
 have h2 : (BitVec.ofInt 64 (b : Int)).toNat = b := by
  rw [BitVec.ofInt_natCast, BitVec.toNat_ofNat]; exact Nat.mod_eq_of_lt (by omega)
 show IntKind.i64.wrap ((BitVec.ofInt 64 (a : Int) ^^^ BitVec.ofInt 64 (b : Int)).toNat : Int) = _
 rw [BitVec.toNat_xor, h1, h2]
 simp [IntKind.wrap, IntKind.bits, IntKind.signed]
 omega

theorem xor_i64_pos {a b : Int} (h1 : 0 ≤ a) (h2 : a < 9223372036854775808) (h3 : 0 ≤ b) (h4 : b < 9223372036854775808) : 0 ≤ Go.bits .xor .i64 a b := by
 obtain ⟨m, rfl⟩ : ∃ m : Nat, a = m := ⟨a.toNat, by omega⟩
 obtain ⟨k, rfl⟩ : ∃ k : Nat, b = k := ⟨b.toNat, by omega⟩
 rw [xor_i64_nat _ _ (by omega) (by omega)]
 omega

/-- a code's bytes -/
def Bytes (s : List Int) : Prop := s.length ≤ 2000 ∧ ∀ x, x ∈ s → 0 ≤ x ∧ x ≤ 255

theorem Bytes.rd {s : List Int} (h : Bytes s) (i : Int) : 0 ≤ rd s i ∧ rd s i ≤ 255 := by
 unfold Go.Proofs.YtihabnfccgjfbaaW.PrintWords.rd
 rw [List.getD_eq_getElem?_getD]
 cases e : s[i.toNat]? with
 | none => simp
 | some x => exact h.2 x (List.mem_of_getElem? e)

theorem tmod_in {a n : Int} (ha : 0 ≤ a) (hn : 1 ≤ n) : 0 ≤ Int.tmod a n ∧ Int.tmod a n < n := by
 rw [Int.tmod_eq_emod_of_nonneg ha]
 exact ⟨Int.emod_nonneg _ (by omega), Int.emod_lt_of_pos _ (by omega)⟩

theorem pick_ev {s : List Int} (hs : Bytes s) {p n : Int} (h0 : 0 ≤ p) (h1 : p ≤ 1000000000) (hn : n ≤ 1000000000) :
 ∃ v, Ev (fun k => spec_l6Rd_pick.f k s p n) (v, p + 1) ∧ 0 ≤ v ∧ v ≤ 1000000000 ∧ (1 ≤ n → v < n) := by
 have w1 : wrap64 (p + 1) = p + 1 := wrap_in (by omega) (by omega)
 have w2 : wrap64 (p + 1 - 1) = p := by rw [wrap_in (by omega) (by omega)]; omega
 unfold spec_l6Rd_pick.f
 by_cases c : n < 1
 ·refine ⟨0, Ev.pos c ?_, by omega, by omega, fun e => by omega⟩
  rw [w1]
  exact Ev.step (f := fun _ => some (0, p + 1)) (fun k => by rw [spec_l6Rd_pick.j0, if_pos rfl]) (Ev.now _)
 ·by_cases d : s.length = 0
  ·refine ⟨0, Ev.neg c ?_, by omega, by omega, fun e => by omega⟩
   rw [w1]
   have e : ((s.length : Int) == 0) = true := by simp [d]
   rw [e]
   exact Ev.step (f := fun _ => some (0, p + 1)) (fun k => by rw [spec_l6Rd_pick.j0, if_pos rfl]) (Ev.now _)
  ·have e : ((s.length : Int) == 0) = false := by
    exact beq_eq_false_iff_ne.mpr (by omega)
   have hl := hs.1
   by_cases f : p < s.length
   ·have r := hs.rd p
    have t := tmod_in (a := rd s p) (n := n) r.1 (by omega)
    refine ⟨Int.tmod (rd s p) n, Ev.neg c ?_, t.1, by omega, fun _ => t.2⟩
    rw [w1, e]
    refine Ev.step (f := fun _ => some (Int.tmod (rd s p) n, p + 1)) (fun k => by
     rw [spec_l6Rd_pick.j0, w2, if_neg (by simp), if_pos f, if_pos h0, if_neg (by omega), wrap_in (by omega) (by omega)]) (Ev.now _)
   ·have m1 := tmod_in (a := p) (n := (s.length : Int)) h0 (by omega)
    have w3 : wrap64 (p * 7) = p * 7 := wrap_in (by omega) (by omega)
    have w4 : wrap64 (p * 7 + 3) = p * 7 + 3 := wrap_in (by omega) (by omega)
    have m2 := tmod_in (a := p * 7 + 3) (n := (s.length : Int)) (by omega) (by omega)
    obtain ⟨A, hA⟩ : ∃ A, A = rd s (Int.tmod p (s.length : Int)) := ⟨_, rfl⟩
    obtain ⟨B, hB⟩ : ∃ B, B = rd s (Int.tmod (p * 7 + 3) (s.length : Int)) := ⟨_, rfl⟩
    have a1 : 0 ≤ A ∧ A ≤ 255 := by rw [hA]; exact hs.rd _
    have b1 : 0 ≤ B ∧ B ≤ 255 := by rw [hB]; exact hs.rd _
    obtain ⟨D, hD⟩ : ∃ D, D = Int.tdiv p (s.length : Int) := ⟨_, rfl⟩
    have d1 : 0 ≤ D ∧ D ≤ p := by
     rw [hD, Int.tdiv_eq_ediv_of_nonneg h0]
     exact ⟨Int.ediv_nonneg h0 (by omega), Int.ediv_le_self _ h0⟩
    obtain ⟨X, hX⟩ : ∃ X, X = A * 131 + B * 1117 + p * 29 + D * 53 := ⟨_, rfl⟩
    have x1 : 0 ≤ X ∧ X ≤ 100000000000 := by omega
    have y1 : 0 ≤ Int.tdiv X 64 ∧ Int.tdiv X 64 ≤ X := by
     rw [Int.tdiv_eq_ediv_of_nonneg x1.1]; omega
    have z := xor_i64_pos (a := X) (b := Int.tdiv X 64) x1.1 (by omega) y1.1 (by omega)
    have t := tmod_in (n := n) z (by omega)
    refine ⟨Int.tmod (Go.bits .xor .i64 X (Int.tdiv X 64)) n, Ev.neg c ?_, t.1, by omega, fun _ => t.2⟩
    rw [w1, e]
    refine Ev.step (f := fun _ => some (Int.tmod (Go.bits .xor .i64 X (Int.tdiv X 64)) n, p + 1)) (fun k => by
     rw [spec_l6Rd_pick.j0, w2, if_neg (by simp), if_neg f, if_neg (by omega), if_pos m1.1, if_pos m1.2, w3, w4, if_pos m2.1, if_pos m2.2, if_neg (by omega), ← hA, ← hB, ← hD]
     rw [wrap_in (n := A) (by omega) (by omega), wrap_in (n := B) (by omega) (by omega), wrap_in (n := A * 131) (by omega) (by omega), wrap_in (n := B * 1117) (by omega) (by omega), wrap_in (n := A * 131 + B * 1117) (by omega) (by omega), wrap_in (n := p * 29) (by omega) (by omega), wrap_in (n := A * 131 + B * 1117 + p * 29) (by omega) (by omega), wrap_in (n := D) (by omega) (by omega), wrap_in (n := D * 53) (by omega) (by omega), wrap_in (n := A * 131 + B * 1117 + p * 29 + D * 53) (by omega) (by omega), ← hX, wrap_in (n := Int.tdiv X 64) (by omega) (by omega)]) (Ev.now _)

theorem open_ev {l : List Int} (hw : ∀ x ∈ l, (Lit.int .u8 x).wf = true) : ∃ s, Bytes s ∧ Ev (fun _ => spec_l6Open.f l) (s, 0) := by
 have hb : ∀ x, x ∈ l → 0 ≤ x ∧ x ≤ 255 := by
  intro x hx
  have := hw x hx
  simp [Lit.wf, IntKind.min, IntKind.max, IntKind.signed, IntKind.bits] at this
  omega
 unfold spec_l6Open.f
 by_cases c : (l.length : Int) > 2000
 ·refine ⟨l.take 2000, ⟨by simp; omega, fun x hx => hb x (List.mem_of_mem_take hx)⟩, Ev.pos c (Ev.pos (by omega) (Ev.now _))⟩
 ·exact ⟨l, ⟨by omega, hb⟩, Ev.neg c (Ev.now _)⟩

/-- f with the point n put into the cycle ahead of k -/
def ins (n k : Nat) (f : Nat → Nat) (x : Nat) : Nat := if x = n then f k else if x = k then n else f x

theorem ins_bij {n k : Nat} {f : Nat → Nat} (hf : Bij n f) (hk : k < n) : Bij (n + 1) (ins n k f) := by
 constructor
 ·intro i hi
  unfold ins
  split
  ·have := hf.1 k hk; omega
  ·split
   ·omega
   ·have := hf.1 i (by omega); omega
 ·intro i j hi hj e
  unfold ins at e
  have bi : i ≠ n → f i < n := fun h => hf.1 i (by omega)
  have bj : j ≠ n → f j < n := fun h => hf.1 j (by omega)
  have bk := hf.1 k hk
  by_cases a1 : i = n <;> by_cases a2 : j = n
  ·omega
  ·rw [if_pos a1, if_neg a2] at e
   by_cases a3 : j = k
   ·rw [if_pos a3] at e; omega
   ·rw [if_neg a3] at e; exact absurd (hf.2 k j hk (by omega) e) (fun h => a3 h.symm)
  ·rw [if_neg a1, if_pos a2] at e
   by_cases a3 : i = k
   ·rw [if_pos a3] at e; omega
   ·rw [if_neg a3] at e; exact absurd (hf.2 i k (by omega) hk e) a3
  ·rw [if_neg a1, if_neg a2] at e
   by_cases a3 : i = k <;> by_cases a4 : j = k
   ·omega
   ·rw [if_pos a3, if_neg a4] at e; have := bj a2; omega
   ·rw [if_neg a3, if_pos a4] at e; have := bi a1; omega
   ·rw [if_neg a3, if_neg a4] at e; exact hf.2 i j (by omega) (by omega) e

theorem add_bij {n : Nat} {f : Nat → Nat} (hf : Bij n f) : Bij (n + 1) (fun x => if x = n then n else f x) := by
 constructor
 ·intro i hi
  show (if i = n then n else f i) < n + 1
  split
  ·omega
  ·have := hf.1 i (by omega); omega
 ·intro i j hi hj e
  have e' : (if i = n then n else f i) = (if j = n then n else f j) := e
  by_cases a1 : i = n <;> by_cases a2 : j = n
  ·omega
  ·rw [if_pos a1, if_neg a2] at e'; have := hf.1 j (by omega); omega
  ·rw [if_neg a1, if_pos a2] at e'; have := hf.1 i (by omega); omega
  ·rw [if_neg a1, if_neg a2] at e'; exact hf.2 i j (by omega) (by omega) e'

theorem perm_ev {s : List Int} (hs : Bytes s) {p : Int} (h0 : 0 ≤ p) (h1 : p ≤ 1000000) {n : Nat} (hn : n ≤ 1000) : ∃ f, Bij n f ∧ Ev (fun k => spec_l91Perm.f k s p (n : Int)) (pm n f, p + n) := by
 have loop : ∀ d i (f : Nat → Nat), i + d = n → Bij i f → ∃ g, Bij n g ∧ Ev (fun k => spec_l91Perm.l0 k (n : Int) (pm i f) (i : Int) s (p + i)) (pm n g, p + n) := by
  intro d
  induction d with
  | zero =>
   intro i f hi hf
   have e : i = n := by omega
   subst e
   exact ⟨f, hf, Ev.step (f := fun _ => some (pm i f, p + i)) (fun k => by rw [spec_l91Perm.l0, if_neg (by omega)]) (Ev.now _)⟩
  | succ d ih =>
   intro i f hi hf
   obtain ⟨v, ev, v0, _, v1⟩ := pick_ev hs (p := p + i) (n := (i : Int) + 1) (by omega) (by omega) (by omega)
   have v2 := v1 (by omega)
   obtain ⟨k, rfl⟩ : ∃ k : Nat, v = k := ⟨v.toNat, by omega⟩
   have ep : p + (i : Int) + 1 = p + ((i + 1 : Nat) : Int) := by omega
   by_cases c : k = i
   ·subst c
    obtain ⟨g, hg, eg⟩ := ih (k + 1) _ (by omega) (add_bij hf)
    refine ⟨g, hg, ?_⟩
    refine Ev.step (fun q => by rw [spec_l91Perm.l0]) (Ev.pos (by omega) ?_)
    rw [wrap_nat (by omega)]
    refine Ev.bind1 ev (Ev.pos rfl (Ev.pos (by rw [pm_length]; omega) ?_))
    have es : pm k f ++ [(k : Int)] = pm (k + 1) (fun x => if x = k then k else f x) := by
     unfold pm
     rw [List.range_succ, List.map_append]
     congr 1
     ·apply List.map_congr_left
      intro x hx
      have : x < k := by simpa using hx
      show (f x : Int) = ((if x = k then k else f x : Nat) : Int)
      rw [if_neg (by omega)]
     ·simp
    rw [es]
    show Ev (fun q => spec_l91Perm.l0 q _ _ _ s (p + (k : Int) + 1)) _
    rw [ep]
    exact eg
   ·have hk : k < i := by omega
    obtain ⟨g, hg, eg⟩ := ih (i + 1) _ (by omega) (ins_bij hf hk)
    refine ⟨g, hg, ?_⟩
    refine Ev.step (fun q => by rw [spec_l91Perm.l0]) (Ev.pos (by omega) ?_)
    rw [wrap_nat (by omega)]
    refine Ev.bind1 ev (Ev.neg (by show ¬ (k : Int) = i; omega) (Ev.pos (by show 0 ≤ (k : Int); omega) (Ev.pos (by rw [pm_length]; show (k : Int) < i; omega) (Ev.pos (by rw [pm_length]; omega) ?_))))
    refine Ev.some1 (Ev.pos (by simp [pm_length]; omega) ?_)
    have es : (pm i f ++ [rd (pm i f) (k : Int)]).set ((k : Int)).toNat (i : Int) = pm (i + 1) (ins i k f) := by
     refine eq_pm' (by simp [pm_length]) fun x hx => ?_
     rw [Int.toNat_natCast, rd_set (by simp [pm_length]; omega), rd_pm hk]
     unfold ins
     by_cases a1 : k = x
     ·rw [if_pos a1, if_neg (by omega), if_pos a1.symm]
     ·rw [if_neg a1]
      by_cases a2 : x = i
      ·rw [if_pos a2, a2]
       have : i < (pm i f ++ [(f k : Int)]).length := by simp [pm_length]
       rw [rd_get this]
       simp [pm_length]
      ·rw [if_neg a2, if_neg (fun e => a1 e.symm)]
       have hx' : x < i := by omega
       have : x < (pm i f ++ [(f k : Int)]).length := by simp [pm_length]; omega
       rw [rd_get this, List.getElem_append_left (by rw [pm_length]; exact hx'), ← rd_get (by rw [pm_length]; exact hx'), rd_pm hx']
    show Ev (fun q => spec_l91Perm.l0 q _ ((pm i f ++ [rd (pm i f) (k : Int)]).set ((k : Int)).toNat (i : Int)) _ s (p + (i : Int) + 1)) _
    rw [es, ep]
    exact eg
 obtain ⟨g, hg, eg⟩ := loop n 0 (fun x => x) (by omega) (id_bij 0)
 refine ⟨g, hg, ?_⟩
 unfold spec_l91Perm.f
 have : p + ((0 : Nat) : Int) = p := by omega
 rw [this] at eg
 exact eg

theorem mx_nat (a b : Nat) : mx (a : Int) (b : Int) = ((max a b : Nat) : Int) := by
 unfold mx
 rcases Nat.lt_or_ge a b with c | c
 ·rw [if_pos (by omega), Nat.max_def, if_pos (by omega)]
 ·rw [if_neg (by omega), Nat.max_def]; split <;> omega

theorem max_ev {n : Nat} {o : Nat → Nat} (h1 : 1 ≤ n) (hn : n ≤ 1000) : ∃ m : Nat, Ev (fun k => slices_Max_int_int.f k (pm n o)) (m : Int) ∧ (m = 0 ↔ ∀ x, x < n → o x = 0) := by
 have loop : ∀ d i (m : Nat), i + d = n → (m = 0 ↔ ∀ x, x < i → o x = 0) → ∃ m' : Nat, Ev (fun k => slices_Max_int_int.l0 k (pm n o) (m : Int) (i : Int)) (m' : Int) ∧ (m' = 0 ↔ ∀ x, x < n → o x = 0) := by
  intro d
  induction d with
  | zero =>
   intro i m hi hm
   have e : i = n := by omega
   subst e
   exact ⟨m, Ev.step (f := fun _ => some (m : Int)) (fun k => by rw [slices_Max_int_int.l0, if_neg (by rw [pm_length]; omega)]) (Ev.now _), hm⟩
  | succ d ih =>
   intro i m hi hm
   have hin : i < n := by omega
   obtain ⟨m', ev, h⟩ := ih (i + 1) (max m (o i)) (by omega) (by
    constructor
    ·intro e x hx
     have e1 : m = 0 := by omega
     by_cases c : x = i
     ·subst c; omega
     ·exact hm.1 e1 x (by omega)
    ·intro e
     have := hm.2 fun x hx => e x (by omega)
     have := e i (by omega)
     omega)
   refine ⟨m', Ev.step (f := fun k => slices_Max_int_int.l0 k (pm n o) ((max m (o i) : Nat) : Int) ((i + 1 : Nat) : Int)) (fun k => by
    rw [slices_Max_int_int.l0, if_pos (by rw [pm_length]; omega), if_pos (by omega), rd_pm hin, mx_nat, wrap_nat (by omega)]) ev, h⟩
 obtain ⟨m', ev, h⟩ := loop (n - 1) 1 (o 0) (by omega) (by
  constructor
  ·intro e x hx
   have : x = 0 := by omega
   subst this; exact e
  ·intro e; exact e 0 (by omega))
 refine ⟨m', ?_, h⟩
 unfold slices_Max_int_int.f
 refine Ev.neg (by rw [pm_length]; omega) (Ev.pos (by rw [pm_length]; omega) ?_)
 have e0 : rd (pm n o) 0 = (o 0 : Int) := rd_pm (i := 0) (by omega)
 rw [e0]
 exact ev

/-- two lists that are a map: the second has no fixed point and is its own way back, and they lead everywhere -/
def IsMp (n : Nat) (a b : List Int) (f g : Nat → Nat) : Prop := IsPerm n a f ∧ IsPerm n b g ∧ (∀ i, i < n → g i ≠ i ∧ g (g i) = i) ∧ ∃ o, IsOrb n f g o ∧ ∀ x, x < n → o x = 0

def mapAt (a b : List Int) : Prop := ∃ n f g, IsMp n a b f g

noncomputable def mvalid (a b : List Int) : Bool := @decide (mapAt a b) (Classical.propDecidable _)

theorem mvalid_iff (a b : List Int) : mvalid a b = true ↔ mapAt a b := by unfold mvalid; simp

theorem mvalid_no {a b : List Int} (h : ¬ mapAt a b) : mvalid a b = false := by unfold mvalid; simp [h]

theorem mvalid_yes {a b : List Int} (h : mapAt a b) : mvalid a b = true := by unfold mvalid; simp [h]

theorem mapAt_both {a b : List Int} (h : mapAt a b) : both a b = true := by
 obtain ⟨n, f, g, hf, hg, _⟩ := h
 exact (both_iff a b).2 ⟨n, f, g, hf, hg⟩

theorem isPerm_same {n m : Nat} {a : List Int} {f g : Nat → Nat} (h : IsPerm n a f) (k : IsPerm m a g) : m = n ∧ ∀ i, i < n → g i = f i := by
 have e : m = n := by rw [← isPerm_len h, isPerm_len k]
 subst e
 exact ⟨rfl, fun i hi => by rw [← isPerm_rd h i hi, isPerm_rd k i hi]⟩

theorem isOrb_congr {n : Nat} {f g f' g' o : Nat → Nat} (ho : IsOrb n f g o) (ef : ∀ i, i < n → f' i = f i) (eg : ∀ i, i < n → g' i = g i) : IsOrb n f' g' o := by
 refine ⟨fun x hx => ?_, ho.le, fun x hx => ?_⟩
 ·rw [ef x hx, eg x hx]; exact ho.keep x hx
 ·intro cc hcc
  exact ho.conn x hx cc (fun y hy => by rw [← ef y hy, ← eg y hy]; exact hcc y hy)

/-- what it takes, when both are permutations -/
theorem mapAt_iff {n : Nat} {a b : List Int} {f g : Nat → Nat} (hf : IsPerm n a f) (hg : IsPerm n b g) {o : Nat → Nat} (ho : IsOrb n f g o) : mapAt a b ↔ (∀ i, i < n → g i ≠ i ∧ g (g i) = i) ∧ ∀ x, x < n → o x = 0 := by
 constructor
 ·rintro ⟨m, f', g', hf', hg', h1, o', ho', h2⟩
  obtain ⟨rfl, ef⟩ := isPerm_same hf hf'
  obtain ⟨_, eg⟩ := isPerm_same hg hg'
  refine ⟨fun i hi => ?_, fun x hx => ?_⟩
  ·have := h1 i hi
   rw [eg i hi, eg (g i) (hg.2.2.1.1 i hi)] at this
   exact this
  ·rw [← (isOrb_congr ho' (fun i hi => (ef i hi).symm) (fun i hi => (eg i hi).symm)).unique ho x hx]; exact h2 x hx
 ·rintro ⟨h1, h2⟩
  exact ⟨n, f, g, hf, hg, h1, o, ho, h2⟩

theorem implMapValid_ev (a b : List Int) : Ev (fun k => impl_MapValid.f k a b) (mvalid a b) := by
 unfold impl_MapValid.f
 have bad : ¬ mapAt a b → Ev (fun k => impl_MapValid.j0 k true a b) (mvalid a b) := by
  intro h
  rw [mvalid_no h]
  exact Ev.step (f := fun _ => some false) (fun k => by rw [impl_MapValid.j0, if_pos rfl]) (Ev.now _)
 by_cases c : both a b = true
 ·obtain ⟨n, f, g, hf, hg⟩ := (both_iff a b).1 c
  have h12 := hf.2.1
  have lf := isPerm_len hf
  have lg := isPerm_len hg
  obtain ⟨o, ho, ev⟩ := implOrbits_ex (by omega) hf.1 hf.2.2.1 hg.2.2.1
  have iff := mapAt_iff hf hg ho
  have e : ((a.length : Int) != (b.length : Int)) = false := by rw [lf, lg]; simp
  refine Ev.bind1 (implValid_ev a) (Ev.pos (isPerm_valid hf) (Ev.bind1 (implValid_ev b) (Ev.pos (isPerm_valid hg) ?_)))
  rw [e]
  refine Ev.step (f := fun k => impl_MapValid.l0 k b (n : Int) ((0 : Nat) : Int) a b) (fun k => by rw [impl_MapValid.j0, if_neg (by simp), lg]; rfl) ?_
  have loop : ∀ d i, i + d = n → (∀ j, j < i → g j ≠ j ∧ g (g j) = j) → Ev (fun k => impl_MapValid.l0 k b (n : Int) (i : Int) a b) (mvalid a b) := by
   intro d
   induction d with
   | zero =>
    intro i hi hall
    have ei : i = n := by omega
    subst ei
    obtain ⟨m, em, hm⟩ := max_ev (o := o) hf.1 (by omega)
    refine Ev.step (fun k => by rw [impl_MapValid.l0]) (Ev.neg (by omega) ?_)
    have ev' : Ev (fun k => impl_orbits.f k [a, b]) (pm i o) := by rw [hf.2.2.2, hg.2.2.2]; exact ev
    refine Ev.bind1 ev' (Ev.bind1 em ?_)
    have : ((m : Int) == 0) = mvalid a b := by
     by_cases z : m = 0
     ·rw [mvalid_yes (iff.2 ⟨hall, hm.1 z⟩), z]; rfl
     ·rw [mvalid_no (fun h => z (hm.2 (iff.1 h).2))]
      exact beq_eq_false_iff_ne.mpr (by omega)
    rw [this]
    exact Ev.now _
   | succ d ih =>
    intro i hi hall
    have hin : i < n := by omega
    have g1 := hg.2.2.1.1 i hin
    have b1 : rd b (i : Int) = (g i : Int) := by rw [hg.2.2.2, rd_pm hin]
    have b2 : rd b (g i : Int) = (g (g i) : Int) := by rw [hg.2.2.2, rd_pm g1]
    by_cases z1 : g i = i
    ·rw [mvalid_no (fun h => ((iff.1 h).1 i hin).1 z1)]
     exact Ev.step (f := fun _ => some false) (fun k => by rw [impl_MapValid.l0, if_pos (by omega), if_pos (by omega), if_pos (by omega), if_pos (by rw [b1, z1])]) (Ev.now _)
    ·by_cases z2 : g (g i) = i
     ·refine Ev.step (f := fun k => impl_MapValid.l0 k b (n : Int) ((i + 1 : Nat) : Int) a b) (fun k => by
       rw [impl_MapValid.l0, if_pos (by omega), if_pos (by omega), if_pos (by omega), if_neg (by rw [b1]; omega), b1, if_pos (by omega), if_pos (by omega), if_pos (by rw [b2, z2]), wrap_nat (by omega)]) (ih (i + 1) (by omega) ?_)
      intro j hj
      by_cases e : j = i
      ·subst e; exact ⟨z1, z2⟩
      ·exact hall j (by omega)
     ·rw [mvalid_no (fun h => z2 ((iff.1 h).1 i hin).2)]
      exact Ev.step (f := fun _ => some false) (fun k => by rw [impl_MapValid.l0, if_pos (by omega), if_pos (by omega), if_pos (by omega), if_neg (by rw [b1]; omega), b1, if_pos (by omega), if_pos (by omega), if_neg (by rw [b2]; omega)]) (Ev.now _)
  exact loop n 0 (by omega) (fun j hj => by omega)
 ·have no : ¬ mapAt a b := fun h => c (mapAt_both h)
  refine Ev.bind1 (implValid_ev a) ?_
  by_cases c1 : impl_PermValid.validB a = true
  ·refine Ev.pos c1 (Ev.bind1 (implValid_ev b) ?_)
   by_cases c2 : impl_PermValid.validB b = true
   ·refine Ev.pos c2 ?_
    have : ((a.length : Int) != (b.length : Int)) = true := by
     simp only [bne_iff_ne, ne_eq]
     intro e
     apply c
     unfold both
     have : a.length = b.length := by omega
     simp [c1, c2, this]
    rw [this]; exact bad no
   ·exact Ev.neg c2 (bad no)
  ·exact Ev.neg c1 (bad no)

theorem specMapValid_ev {a b : List Int} (ha : a.length ≤ 4294967296) (hb : b.length ≤ 4294967296) : Ev (fun k => spec_MapValid.f k a b) (mvalid a b) := by
 unfold spec_MapValid.f
 refine Ev.bind1 (l1Both_ev ha hb) ?_
 by_cases c : both a b = true
 ·obtain ⟨n, f, g, hf, hg⟩ := (both_iff a b).1 c
  have h12 := hf.2.1
  have lf := isPerm_len hf
  have lg := isPerm_len hg
  obtain ⟨o, ho, _⟩ := implOrbits_ex (by omega) hf.1 hf.2.2.1 hg.2.2.1
  have ev := specOrbits_ev (by omega) hf.2.2.1 hg.2.2.1 ho
  have iff := mapAt_iff hf hg ho
  refine Ev.pos c ?_
  have last : (∀ j, j < n → g j ≠ j ∧ g (g j) = j) → ∀ d i, i + d = n → (∀ j, j < i → o j = 0) → Ev (fun k => spec_MapValid.l1 k (pm n o) (i : Int)) (mvalid a b) := by
   intro hall d
   induction d with
   | zero =>
    intro i hi h0
    have ei : i = n := by omega
    subst ei
    rw [mvalid_yes (iff.2 ⟨hall, h0⟩)]
    exact Ev.step (f := fun _ => some true) (fun k => by rw [spec_MapValid.l1, if_neg (by rw [pm_length]; omega)]) (Ev.now _)
   | succ d ih =>
    intro i hi h0
    have hin : i < n := by omega
    by_cases z : o i = 0
    ·refine Ev.step (f := fun k => spec_MapValid.l1 k (pm n o) ((i + 1 : Nat) : Int)) (fun k => by
      rw [spec_MapValid.l1, if_pos (by rw [pm_length]; omega), if_pos (by omega), if_pos (by rw [rd_pm hin, z]; rfl), wrap_nat (by omega)]) (ih (i + 1) (by omega) ?_)
     intro j hj
     by_cases e : j = i
     ·subst e; exact z
     ·exact h0 j (by omega)
    ·rw [mvalid_no (fun h => z ((iff.1 h).2 i hin))]
     exact Ev.step (f := fun _ => some false) (fun k => by rw [spec_MapValid.l1, if_pos (by rw [pm_length]; omega), if_pos (by omega), if_neg (by rw [rd_pm hin]; omega)]) (Ev.now _)
  have loop : ∀ d i, i + d = n → (∀ j, j < i → g j ≠ j ∧ g (g j) = j) → Ev (fun k => spec_MapValid.l0 k (i : Int) a b) (mvalid a b) := by
   intro d
   induction d with
   | zero =>
    intro i hi hall
    have ei : i = n := by omega
    subst ei
    refine Ev.step (fun k => by rw [spec_MapValid.l0]) (Ev.neg (by omega) ?_)
    have ev' : Ev (fun k => spec_l1Orbits.f k a b) (pm i o) := by rw [hf.2.2.2, hg.2.2.2]; exact ev
    exact Ev.bind1 ev' (last hall i 0 (by omega) (fun j hj => by omega))
   | succ d ih =>
    intro i hi hall
    have hin : i < n := by omega
    have g1 := hg.2.2.1.1 i hin
    have b1 : rd b (i : Int) = (g i : Int) := by rw [hg.2.2.2, rd_pm hin]
    have b2 : rd b (g i : Int) = (g (g i) : Int) := by rw [hg.2.2.2, rd_pm g1]
    by_cases z1 : g i = i
    ·rw [mvalid_no (fun h => ((iff.1 h).1 i hin).1 z1)]
     exact Ev.step (f := fun _ => some false) (fun k => by rw [spec_MapValid.l0, if_pos (by omega), if_pos (by omega), if_pos (by rw [b1, z1])]) (Ev.now _)
    ·by_cases z2 : g (g i) = i
     ·refine Ev.step (f := fun k => spec_MapValid.l0 k ((i + 1 : Nat) : Int) a b) (fun k => by
       rw [spec_MapValid.l0, if_pos (by omega), if_pos (by omega), if_neg (by rw [b1]; omega), b1, if_pos (by omega), if_pos (by omega), if_pos (by rw [b2, z2]), wrap_nat (by omega)]) (ih (i + 1) (by omega) ?_)
      intro j hj
      by_cases e : j = i
      ·subst e; exact ⟨z1, z2⟩
      ·exact hall j (by omega)
     ·rw [mvalid_no (fun h => z2 ((iff.1 h).1 i hin).2)]
      exact Ev.step (f := fun _ => some false) (fun k => by rw [spec_MapValid.l0, if_pos (by omega), if_pos (by omega), if_neg (by rw [b1]; omega), b1, if_pos (by omega), if_pos (by omega), if_neg (by rw [b2]; omega)]) (Ev.now _)
  exact loop n 0 (by omega) (fun j hj => by omega)
 ·rw [mvalid_no fun h => c (mapAt_both h)]
  exact Ev.neg c (Ev.now _)

theorem IsMp.le {n : Nat} {a b : List Int} {f g : Nat → Nat} (h : IsMp n a b f g) : a.length = n ∧ b.length = n ∧ 1 ≤ n ∧ n ≤ 12 := ⟨isPerm_len h.1, isPerm_len h.2.1, h.1.1, h.1.2.1⟩

theorem IsMp.conn {n : Nat} {a b : List Int} {f g : Nat → Nat} (h : IsMp n a b f g) {r : Nat} (hr : r < n) : ∀ x, x < n → conn n f g r x := by
 obtain ⟨_, _, _, o, ho, h0⟩ := h
 intro x hx
 have h1 := ho.conn r hr
 have h2 := ho.conn x hx
 rw [h0 r hr] at h1
 rw [h0 x hx] at h2
 exact conn_trans h1 (conn_symm h2)

def nb (i : Nat) : Nat := if i % 2 = 0 then i + 1 else i - 1

theorem nb_bij {n : Nat} (h : n % 2 = 0) : Bij n nb := by
 constructor
 ·intro i hi; unfold nb; split <;> omega
 ·intro i j hi hj e; unfold nb at e; split at e <;> split at e <;> omega

theorem nb_nb (i : Nat) : nb (nb i) = i := by unfold nb; split <;> split <;> omega

theorem nb_ne (i : Nat) : nb i ≠ i := by unfold nb; split <;> omega

def flipTo (n : Nat) (P : Nat → Nat) (m y : Nat) : Nat := if finv n P y < m then P (nb (finv n P y)) else 0

theorem flip_step {n m : Nat} {P : Nat → Nat} (hP : Bij n P) (hm : m + 1 < n) (he : m % 2 = 0) :
 ((pm n (flipTo n P m)).set (P m) (P (m + 1) : Int)).set (P (m + 1)) (P m : Int) = pm n (flipTo n P (m + 2)) := by
 have h1 := hP.1 m (by omega)
 have h2 := hP.1 (m + 1) (by omega)
 apply eq_pm' (by simp [pm_length])
 intro y hy
 rw [rd_set (by simp [pm_length]; omega), rd_set (by simp [pm_length]; omega), rd_pm hy]
 have fy := finv_spec hP hy
 have n0 : nb m = m + 1 := by unfold nb; rw [if_pos he]
 have n1 : nb (m + 1) = m := by unfold nb; rw [if_neg (by omega)]; omega
 unfold flipTo
 by_cases c : P (m + 1) = y
 ·have e : finv n P y = m + 1 := by rw [← c]; exact finv_left hP (by omega)
  rw [if_pos c, e, if_pos (by omega), n1]
 ·rw [if_neg c]
  by_cases d : P m = y
  ·have e : finv n P y = m := by rw [← d]; exact finv_left hP (by omega)
   rw [if_pos d, e, if_pos (by omega), n0]
  ·rw [if_neg d]
   have e1 : finv n P y ≠ m + 1 := fun e => c (by rw [← e]; exact fy.2)
   have e2 : finv n P y ≠ m := fun e => d (by rw [← e]; exact fy.2)
   by_cases g : finv n P y < m
   ·rw [if_pos g, if_pos (by omega)]
   ·rw [if_neg g, if_neg (by omega)]

theorem flip_loop {n : Nat} {P : Nat → Nat} (hn : n ≤ 12) (hP : Bij n P) {s : List Int} {p : Int} {R : List Int × List Int × Int}
 (cont : Ev (fun k => (spec_l91Perm.f k s p (n : Int)).bind fun t => spec_l91Map.l1 k (n : Int) 0 s t.2 t.1 (pm n (conj n P nb))) R) :
 ∀ d m, m + 2 * d = n → m % 2 = 0 → Ev (fun k => spec_l91Map.l0 k (n : Int) (pm n P) (pm n (flipTo n P m)) (m : Int) s p) R := by
 intro d
 induction d with
 | zero =>
  intro m hm he
  have e : m = n := by omega
  subst e
  have e2 : pm m (flipTo m P m) = pm m (conj m P nb) := by
   rw [pm_ext]
   intro y hy
   unfold flipTo conj
   rw [if_pos (finv_spec hP hy).1]
  rw [e2]
  exact Ev.step (fun k => by rw [spec_l91Map.l0]) (Ev.neg (by rw [wrap_nat (by omega)]; omega) cont)
 | succ d ih =>
  intro m hm he
  have h1 := hP.1 m (by omega)
  have h2 := hP.1 (m + 1) (by omega)
  have w1 : wrap64 ((m : Int) + 1) = ((m + 1 : Nat) : Int) := wrap_nat (by omega)
  have w2 : wrap64 ((m : Int) + 2) = ((m + 2 : Nat) : Int) := by rw [wrap_in (by omega) (by omega)]; omega
  refine Ev.step (fun k => by rw [spec_l91Map.l0, w1, w2, rd_pm (by omega : m < n), rd_pm (by omega : m + 1 < n)]) ?_
  refine Ev.pos (by omega) (Ev.pos (by omega) (Ev.pos (by rw [pm_length]; omega) (Ev.pos (by omega) (Ev.pos (by rw [pm_length]; omega) (Ev.pos (by omega) (Ev.pos (by rw [pm_length]; omega) (Ev.pos (by omega) (Ev.pos (by rw [pm_length]; omega) ?_))))))))
  rw [Int.toNat_natCast, Int.toNat_natCast, flip_step hP (by omega) he]
  exact ih (m + 2) (by omega) (by omega)

theorem map_end {s : List Int} (hs : Bytes s) {p : Int} (h0 : 0 ≤ p) (h1 : p ≤ 1000000) {n : Nat} {i : Int} {A B : List Int} (hA : A.length = n) (hB : B.length = n) (h2 : 1 ≤ n) (h3 : n ≤ 12) :
 ∃ a b, Ev (fun k => spec_l91Map.j2 k (n : Int) i false s p A B) (a, b, p + 1) ∧ a.length ≤ 12 ∧ b.length ≤ 12 := by
 obtain ⟨v, ev, _⟩ := pick_ev hs h0 (p := p) (n := 50) (by omega) (by omega)
 have st : ∀ R, Ev (fun k => if v = 0 then (if 0 < (B.length : Int) then some (A, (B.set (0 : Int).toNat 0), p + 1) else none) else (if v = 1 then (if 1 ≤ (A.length : Int) then some ((A.drop (1 : Int).toNat), B, p + 1) else none) else (if v = 2 then (if 0 < (A.length : Int) then some ((A.set (0 : Int).toNat (n : Int)), B, p + 1) else none) else some (A, B, p + 1)))) R → Ev (fun k => spec_l91Map.j2 k (n : Int) i false s p A B) R := by
  intro R h
  exact Ev.step (fun k => by rw [spec_l91Map.j2]) (Ev.neg (by simp) (Ev.bind1 ev h))
 by_cases c0 : v = 0
 ·exact ⟨_, _, st _ (Ev.pos c0 (Ev.pos (by omega) (Ev.now _))), by omega, by simp; omega⟩
 ·by_cases c1 : v = 1
  ·exact ⟨_, _, st _ (Ev.neg c0 (Ev.pos c1 (Ev.pos (by omega) (Ev.now _)))), by simp; omega, by omega⟩
  ·by_cases c2 : v = 2
   ·exact ⟨_, _, st _ (Ev.neg c0 (Ev.neg c1 (Ev.pos c2 (Ev.pos (by omega) (Ev.now _))))), by simp; omega, by omega⟩
   ·exact ⟨_, _, st _ (Ev.neg c0 (Ev.neg c1 (Ev.neg c2 (Ev.now _)))), by omega, by omega⟩

theorem swap_set {n k : Nat} {f : Nat → Nat} (hk : k < n) : ((pm n f).set 0 (f k : Int)).set k (f 0 : Int) = pm n fun i => f (swp 0 k i) := by
 apply eq_pm' (by simp [pm_length])
 intro y hy
 rw [rd_set (by simp [pm_length]; omega), rd_set (by simp [pm_length]; omega), rd_pm hy]
 unfold swp
 by_cases c : k = y
 ·subst c
  rw [if_pos rfl]
  by_cases d : k = 0
  ·subst d; simp
  ·rw [if_neg d, if_pos rfl]
 ·rw [if_neg c]
  by_cases d : 0 = y
  ·subst d; simp
  ·rw [if_neg d, if_neg (by omega), if_neg (by omega)]

theorem map_loop {s : List Int} (hs : Bytes s) {p : Int} (h0 : 0 ≤ p) (h1 : p ≤ 1000000) {n : Nat} {g : Nat → Nat} (h2 : 1 ≤ n) (h3 : n ≤ 12) (hg : Bij n g) (gg : ∀ i, i < n → g i ≠ i ∧ g (g i) = i) :
 ∀ d i (f : Nat → Nat), i + d = n → Bij n f → ∃ a b, Ev (fun k => spec_l91Map.l1 k (n : Int) (i : Int) s p (pm n f) (pm n g)) (a, b, p + 1) ∧ a.length ≤ 12 ∧ b.length ≤ 12 := by
 intro d
 induction d with
 | zero =>
  intro i f hi hf
  obtain ⟨a, b, e, l1, l2⟩ := map_end hs h0 h1 (i := (i : Int)) (pm_length n f) (pm_length n g) h2 h3
  exact ⟨a, b, Ev.step (fun k => by rw [spec_l91Map.l1]) (Ev.neg (by omega) e), l1, l2⟩
 | succ d ih =>
  intro i f hi hf
  have mv := specMapValid_ev (a := pm n f) (b := pm n g) (by rw [pm_length]; omega) (by rw [pm_length]; omega)
  by_cases c : mvalid (pm n f) (pm n g) = true
  ·obtain ⟨a, b, e, l1, l2⟩ := map_end hs h0 h1 (i := (i : Int)) (pm_length n f) (pm_length n g) h2 h3
   refine ⟨a, b, Ev.step (fun k => by rw [spec_l91Map.l1]) (Ev.pos (by omega) (Ev.bind1 mv ?_)), l1, l2⟩
   rw [c]; exact e
  ·obtain ⟨o, ho, _⟩ := implOrbits_ex (n := n) (by omega) h2 hf hg
   have so := specOrbits_ev (n := n) (by omega) hf hg ho
   have ex : ∃ x, x < n ∧ o x ≠ 0 := by
    apply Classical.byContradiction
    intro hh
    apply c
    rw [mvalid_iff, mapAt_iff ⟨h2, h3, hf, rfl⟩ ⟨h2, h3, hg, rfl⟩ ho]
    exact ⟨gg, fun x hx => Classical.byContradiction fun hx' => hh ⟨x, hx, hx'⟩⟩
   have srch : ∀ e j, j + e = n → (∀ x, x < j → o x = 0) → ∃ a b, Ev (fun k => spec_l91Map.l2 k (n : Int) (i : Int) (pm n o) (j : Int) s p (pm n f) (pm n g)) (a, b, p + 1) ∧ a.length ≤ 12 ∧ b.length ≤ 12 := by
    intro e
    induction e with
    | zero =>
     intro j hj hz
     obtain ⟨x, hx, hx'⟩ := ex
     exact (hx' (hz x (by omega))).elim
    | succ e ihe =>
     intro j hj hz
     have hjn : j < n := by omega
     by_cases z : o j = 0
     ·obtain ⟨a, b, e1, l1, l2⟩ := ihe (j + 1) (by omega) (fun x hx => by
       by_cases q : x = j
       ·rw [q]; exact z
       ·exact hz x (by omega))
      refine ⟨a, b, Ev.step (fun k => by rw [spec_l91Map.l2]) (Ev.pos (by omega) (Ev.pos (by rw [pm_length]; omega) (Ev.pos (by rw [rd_pm hjn, z]; rfl) ?_))), l1, l2⟩
      rw [wrap_nat (by omega)]; exact e1
     ·have hsw : Bij n fun x => f (swp 0 j x) := comp_bij (swp_bij (by omega) hjn) hf
      obtain ⟨a, b, e1, l1, l2⟩ := ih (i + 1) (fun x => f (swp 0 j x)) (by omega) hsw
      refine ⟨a, b, Ev.step (fun k => by rw [spec_l91Map.l2]) (Ev.pos (by omega) (Ev.pos (by rw [pm_length]; omega) (Ev.neg (by rw [rd_pm hjn]; omega) (Ev.pos (by rw [pm_length]; omega) (Ev.pos (by rw [pm_length]; omega) ?_))))), l1, l2⟩
      have r0 : rd (pm n f) 0 = (f 0 : Int) := rd_pm (i := 0) (by omega)
      rw [wrap_nat (by omega), rd_pm hjn, r0, Int.toNat_natCast, show (0 : Int).toNat = 0 from rfl, swap_set hjn]
      exact e1
   obtain ⟨a, b, e, l1, l2⟩ := srch n 0 (by omega) (fun x hx => by omega)
   refine ⟨a, b, Ev.step (fun k => by rw [spec_l91Map.l1]) (Ev.pos (by omega) (Ev.bind1 mv ?_)), l1, l2⟩
   have c' : mvalid (pm n f) (pm n g) = false := by simpa using c
   rw [c']
   show Ev (fun k => spec_l91Map.j2 k (n : Int) (i : Int) true s p (pm n f) (pm n g)) _
   refine Ev.step (fun k => by rw [spec_l91Map.j2]) (Ev.pos rfl (Ev.bind1 so ?_))
   exact e

/-- a drawn map -/
theorem map_ev {s : List Int} (hs : Bytes s) {p : Int} (h0 : 0 ≤ p) (h1 : p ≤ 100000) {e : Int} (he : 1 ≤ e) (he2 : e ≤ 6) :
 ∃ a b p', Ev (fun k => spec_l91Map.f k s p e) (a, b, p') ∧ a.length ≤ 12 ∧ b.length ≤ 12 ∧ p ≤ p' ∧ p' ≤ p + 100 := by
 obtain ⟨v, ev, v0, _, v1⟩ := pick_ev hs h0 (p := p) (n := e) (by omega) (by omega)
 have v2 := v1 he
 obtain ⟨n, hn⟩ : ∃ n : Nat, (n : Int) = 2 * (1 + v) := ⟨(2 * (1 + v)).toNat, by omega⟩
 have w1 : wrap64 (2 * wrap64 (1 + v)) = (n : Int) := by rw [wrap_in (n := 1 + v) (by omega) (by omega), wrap_in (by omega) (by omega), hn]
 obtain ⟨P, hP, eP⟩ := perm_ev hs (p := p + 1) (n := n) (by omega) (by omega) (by omega)
 obtain ⟨T, hT, eT⟩ := perm_ev hs (p := p + 1 + n) (n := n) (by omega) (by omega) (by omega)
 have even : n % 2 = 0 := by omega
 have hg : Bij n (conj n P nb) := conj_bij hP (nb_bij even)
 have gg : ∀ i, i < n → conj n P nb i ≠ i ∧ conj n P nb (conj n P nb i) = i := by
  intro i hi
  have fi := finv_spec hP hi
  have nl := (nb_bij even).1 _ fi.1
  have c1 : conj n P nb i = P (nb (finv n P i)) := rfl
  constructor
  ·rw [c1]
   intro e'
   have := hP.2 _ _ nl fi.1 (by rw [e', fi.2])
   exact nb_ne _ this
  ·rw [c1, conj_at hP nl, nb_nb, fi.2]
 obtain ⟨a, b, el, l1, l2⟩ := map_loop hs (p := p + 1 + n + n) (by omega) (by omega) (n := n) (by omega) (by omega) hg gg n 0 T (by omega) hT
 have cont : Ev (fun k => (spec_l91Perm.f k s (p + 1 + n) (n : Int)).bind fun t => spec_l91Map.l1 k (n : Int) 0 s t.2 t.1 (pm n (conj n P nb))) (a, b, p + 1 + n + n + 1) := Ev.bind1 eT el
 have f0 : pm n (flipTo n P 0) = List.replicate n 0 := by
  apply Eq.symm
  apply eq_pm' (by simp)
  intro i hi
  unfold flipTo rd
  simp [List.getD_eq_getElem?_getD, hi]
 have fl := flip_loop (by omega) hP cont (n / 2) 0 (by omega) (by omega)
 rw [f0] at fl
 refine ⟨a, b, p + 1 + n + n + 1, ?_, l1, l2, by omega, by omega⟩
 unfold spec_l91Map.f
 refine Ev.bind1 ev ?_
 dsimp only
 rw [w1]
 refine Ev.bind1 eP (Ev.pos (by omega) (Ev.pos (by omega) ?_))
 rw [Int.toNat_natCast]
 exact fl

theorem IsMp.faces {n : Nat} {a b : List Int} {f g : Nat → Nat} (h : IsMp n a b f g) : Ev (fun k => impl_mul.f k b a) (pm n fun i => f (g i)) := by
 have h12 := h.1.2.1
 rw [h.1.2.2.2, h.2.1.2.2.2]
 exact mul_ev (by omega) h.2.1.2.2.1.1

theorem IsMp.face_bij {n : Nat} {a b : List Int} {f g : Nat → Nat} (h : IsMp n a b f g) : Bij n fun i => f (g i) := comp_bij h.2.1.2.2.1 h.1.2.2.1

theorem l6In_ev (x lo hi : Int) : Ev (fun _ => spec_l6In.f x lo hi) (decide (lo ≤ x ∧ x ≤ hi)) := by
 unfold spec_l6In.f
 by_cases c : x ≥ lo
 ·have : decide (lo ≤ x ∧ x ≤ hi) = decide (x ≤ hi) := by simp [c]
  rw [this]; exact Ev.pos c (Ev.now _)
 ·have : decide (lo ≤ x ∧ x ≤ hi) = false := by
   apply decide_eq_false; intro h; exact c h.1
  rw [this]; exact Ev.neg c (Ev.now _)

theorem IsMp.pm {n : Nat} {a b : List Int} {f g : Nat → Nat} (h : IsMp n a b f g) : a = Sm.pm n f ∧ b = Sm.pm n g := ⟨h.1.2.2.2, h.2.1.2.2.2⟩

theorem countsI {n : Nat} {a b : List Int} {f g : Nat → Nat} (h : IsMp n a b f g) : Ev (fun k => impl_MapCounts.f k a b) ([(cc n f : Int), ((n / 2 : Nat) : Int), (cc n (fun i => f (g i)) : Int)], true) := by
 have l := h.le
 have cf : Ev (fun k => impl_cyclesOf.f k a) (cycsL n f) := by rw [h.pm.1]; exact implCycles_ev (by omega) h.1.2.2.1
 have cF := implCycles_ev (n := n) (by omega) h.face_bij
 have w : wrap64 ((b.length : Int) / 2) = ((n / 2 : Nat) : Int) := by rw [wrap_in (by omega) (by omega)]; omega
 unfold impl_MapCounts.f
 refine Ev.bind1 (implMapValid_ev a b) (Ev.pos (mvalid_yes ⟨n, f, g, h⟩) (Ev.bind1 cf (Ev.bind1 h.faces (Ev.bind1 cF ?_))))
 rw [w, cycsL_length, cycsL_length]
 exact Ev.now _

theorem ev_uniq {α : Type} {g : Nat → Option α} {r s : α} (h : Ev g r) (k : Ev g s) : r = s := by
 obtain ⟨a, ha⟩ := h
 obtain ⟨b, hb⟩ := k
 have e1 := ha (a + b) (by omega)
 have e2 := hb (a + b) (by omega)
 rw [e1] at e2
 exact Option.some.inj e2

theorem at_ev {s : List Int} (hs : Bytes s) {p : Int} (h0 : 0 ≤ p) (h1 : p ≤ 100000) {n : Nat} (hn : n ≤ 12) : ∃ x p', Ev (fun k => spec_l91At.f k s p (n : Int)) (x, p') ∧ p ≤ p' ∧ p' ≤ p + 2 := by
 have yes : ∀ q : Int, 0 ≤ q → q ≤ 200000 → ∃ x, Ev (fun k => spec_l91At.j0 k (n : Int) true s q) (x, q + 1) := by
  intro q q0 q1
  obtain ⟨v, ev, v0, _, v1⟩ := pick_ev hs q0 (p := q) (n := 2) (by omega) (by omega)
  have v2 := v1 (by omega)
  refine ⟨rd [(-1), (n : Int)] v, ?_⟩
  refine Ev.step (fun k => by rw [spec_l91At.j0]) ?_
  exact Ev.pos rfl (Ev.some1 (Ev.bind1 ev (Ev.pos v0 (Ev.pos (by show v < 2; omega) (Ev.now _)))))
 have no : ∀ q : Int, 0 ≤ q → q ≤ 200000 → ∃ x, Ev (fun k => spec_l91At.j0 k (n : Int) false s q) (x, q + 1) := by
  intro q q0 q1
  obtain ⟨v, ev, _⟩ := pick_ev hs q0 (p := q) (n := (n : Int)) (by omega) (by omega)
  refine ⟨v, ?_⟩
  refine Ev.step (fun k => by rw [spec_l91At.j0]) ?_
  exact Ev.neg (by simp) (Ev.bind1 ev (Ev.now _))
 unfold spec_l91At.f
 by_cases c : (n : Int) = 0
 ·obtain ⟨x, e⟩ := yes p h0 (by omega)
  exact ⟨x, p + 1, Ev.pos c e, by omega, by omega⟩
 ·obtain ⟨v, ev, _⟩ := pick_ev hs h0 (p := p) (n := 20) (by omega) (by omega)
  cases d : (v == 0) with
  | true =>
   obtain ⟨x, e⟩ := yes (p + 1) (by omega) (by omega)
   refine ⟨x, p + 1 + 1, Ev.neg c (Ev.bind1 ev ?_), by omega, by omega⟩
   dsimp only; rw [d]; exact e
  | false =>
   obtain ⟨x, e⟩ := no (p + 1) (by omega) (by omega)
   refine ⟨x, p + 1 + 1, Ev.neg c (Ev.bind1 ev ?_), by omega, by omega⟩
   dsimp only; rw [d]; exact e

theorem it_closed {n : Nat} {t : Nat → Nat} (ht : Bij n t) {x : List Int} (hc : ∀ y, y < n → rd x (t y : Int) = rd x (y : Int)) {y z : Nat} (hy : y < n) (o : orb t y z) : rd x (z : Int) = rd x (y : Int) := by
 obtain ⟨k, rfl⟩ := o
 induction k with
 | zero => rfl
 | succ k ih => show rd x (t (it t k y) : Int) = _; rw [hc _ (it_lt ht k hy), ih]

theorem atLoop_ev {n : Nat} {t : Nat → Nat} (hn : n ≤ 1000) (ht : Bij n t) {v : Int} (hv : 0 ≤ v) {d : Nat} (hd : d < n) (x0 : List Int) (h0 : ∀ j, j < per n t d → rd x0 (it t j d : Int) < 0) :
 ∀ m j (x : List Int), j + m = per n t d → x.length = n → (∀ y, y < n → rd x (y : Int) = if y ∈ (List.range j).map (fun i => it t i d) then v else rd x0 (y : Int)) →
  ∃ x' : List Int, x'.length = n ∧ Ev (fun k => impl_distancesFrom.at_ v (pm n t) k x (it t j d : Int)) x' ∧ ∀ y, y < n → rd x' (y : Int) = if y ∈ cyc n t d then v else rd x0 (y : Int) := by
 intro m
 have P := per_spec ht hd
 induction m with
 | zero =>
  intro j x hj hx hr
  have ej : j = per n t d := by omega
  subst ej
  have e : rd x ((it t (per n t d) d : Nat) : Int) = v := by
   rw [hr _ (it_lt ht _ hd), if_pos]
   rw [P.2.2.1]
   exact List.mem_map.2 ⟨0, List.mem_range.2 P.1, rfl⟩
  have l := it_lt ht (per n t d) hd
  refine ⟨x, hx, ?_, fun y hy => hr y hy⟩
  exact Ev.step (f := fun _ => some x) (fun k => by rw [impl_distancesFrom.at_, if_pos (by omega), if_pos (by omega), if_neg (by rw [e]; omega)]) (Ev.now _)
 | succ m ih =>
  intro j x hj hx hr
  have l := it_lt ht j hd
  have fresh : it t j d ∉ (List.range j).map (fun i => it t i d) := by
   intro hm
   obtain ⟨i, hi, e⟩ := List.mem_map.1 hm
   have := it_inj_per ht hd (by have := List.mem_range.1 hi; omega) (by omega) e
   have := List.mem_range.1 hi; omega
  have e : rd x ((it t j d : Nat) : Int) < 0 := by rw [hr _ l, if_neg fresh]; exact h0 j (by omega)
  obtain ⟨x', h1, h2, h3⟩ := ih (j + 1) (x.set (it t j d) v) (by omega) (by simp [hx]) (by
   intro y hy
   rw [rd_set (by omega), List.range_succ, List.map_append]
   by_cases c : it t j d = y
   ·rw [if_pos c, if_pos (by simp [c])]
   ·rw [if_neg c, hr y hy]
    by_cases c2 : y ∈ (List.range j).map (fun i => it t i d)
    ·rw [if_pos c2, if_pos (List.mem_append_left _ c2)]
    ·rw [if_neg c2, if_neg]
     intro hm
     rcases List.mem_append.1 hm with hm | hm
     ·exact c2 hm
     ·simp at hm; exact c hm.symm)
  refine ⟨x', h1, ?_, h3⟩
  refine Ev.step (fun k => ?_) h2
  rw [impl_distancesFrom.at_, if_pos (by omega), if_pos (by omega), if_pos e, if_pos (by rw [pm_length]; omega), rd_pm l, Int.toNat_natCast]
  rfl

theorem around_ev {n : Nat} {t : Nat → Nat} (hn : n ≤ 1000) (ht : Bij n t) {v : Int} (hv : 0 ≤ v) {x : List Int} (hx : x.length = n) (hc : ∀ y, y < n → rd x (t y : Int) = rd x (y : Int)) {d : Nat} (hd : d < n) :
 ∃ x' : List Int, x'.length = n ∧ Ev (fun k => impl_distancesFrom.at_ v (pm n t) k x (d : Int)) x' ∧ (0 ≤ rd x (d : Int) → x' = x) ∧
  (rd x (d : Int) < 0 → ∀ y, y < n → (orb t d y → rd x' (y : Int) = v) ∧ (¬ orb t d y → rd x' (y : Int) = rd x (y : Int))) := by
 by_cases c : rd x (d : Int) < 0
 ·obtain ⟨x', h1, h2, h3⟩ := atLoop_ev hn ht hv hd x (fun j _ => by rw [it_closed ht hc hd ⟨j, rfl⟩]; exact c) (per n t d) 0 x (by omega) hx (fun y hy => by simp)
  refine ⟨x', h1, h2, fun h => by omega, fun _ y hy => ⟨fun o => ?_, fun o => ?_⟩⟩
  ·rw [h3 y hy, if_pos ((mem_cyc ht hd).2 o)]
  ·rw [h3 y hy, if_neg (fun m => o ((mem_cyc ht hd).1 m))]
 ·refine ⟨x, hx, ?_, fun _ => rfl, fun h => (c h).elim⟩
  exact Ev.step (f := fun _ => some x) (fun k => by rw [impl_distancesFrom.at_, if_pos (by omega), if_pos (by omega), if_neg c]) (Ev.now _)

/-- what holds while level L is under way, up to the dart i -/
structure Lev (n : Nat) (t s : Nat → Nat) (a : Nat) (x : List Int) (L i : Nat) : Prop where
 len : x.length = n
 cl : ∀ y, y < n → rd x (t y : Int) = rd x (y : Int)
 top : ∀ y, y < n → rd x (y : Int) ≤ L + 1
 zero : rd x (a : Int) = 0
 w0 : ∀ y, y < n → rd x (y : Int) = 0 → orb t a y
 w1 : ∀ y, y < n → ∀ m : Nat, rd x (y : Int) = m + 1 → ∃ z, z < n ∧ orb t y z ∧ rd x (s z : Int) = m
 done : ∀ y, y < n → 0 ≤ rd x (y : Int) → (rd x (y : Int) < L ∨ rd x (y : Int) = L ∧ y < i) → 0 ≤ rd x (s y : Int) ∧ rd x (s y : Int) ≤ rd x (y : Int) + 1

theorem Lev.next {n : Nat} {t s : Nat → Nat} {a : Nat} {x : List Int} {L : Nat} (h : Lev n t s a x L n) : Lev n t s a x (L + 1) 0 :=
 ⟨h.len, h.cl, fun y hy => by have := h.top y hy; push_cast; omega, h.zero, h.w0, h.w1, fun y hy h0 c => h.done y hy h0 (by push_cast at c; omega)⟩

theorem Lev.skip {n : Nat} {t s : Nat → Nat} {a : Nat} {x : List Int} {L i : Nat} (h : Lev n t s a x L i) (c : rd x (i : Int) ≠ L) : Lev n t s a x L (i + 1) :=
 ⟨h.len, h.cl, h.top, h.zero, h.w0, h.w1, fun y hy h0 q => h.done y hy h0 (by
  rcases q with q | ⟨q1, q2⟩
  ·exact .inl q
  ·by_cases e : y = i
   ·subst e; exact (c q1).elim
   ·exact .inr ⟨q1, by omega⟩)⟩

theorem Lev.put {n : Nat} {t s : Nat → Nat} {a : Nat} (hn : n ≤ 1000) (ht : Bij n t) (hs : Bij n s) (ss : ∀ y, y < n → s (s y) = y) (ha : a < n) {x : List Int} {L i : Nat} (hi : i < n) (h : Lev n t s a x L i) (c : rd x (i : Int) = L) :
 ∃ x' : List Int, Ev (fun k => impl_distancesFrom.at_ ((L : Int) + 1) (pm n t) k x (s i : Int)) x' ∧ Lev n t s a x' L (i + 1) := by
 obtain ⟨x', h1, h2, h3, h4⟩ := around_ev hn ht (v := (L : Int) + 1) (by omega) h.len h.cl (hs.1 i hi)
 refine ⟨x', h2, ?_⟩
 by_cases q : 0 ≤ rd x (s i : Int)
 ·rw [h3 q]
  refine ⟨h.len, h.cl, h.top, h.zero, h.w0, h.w1, fun y hy h0 r => ?_⟩
  by_cases e : rd x (y : Int) = L ∧ y = i
  ·obtain ⟨e1, rfl⟩ := e
   have := h.top _ (hs.1 y hy)
   exact ⟨q, by omega⟩
  ·exact h.done y hy h0 (by
    rcases r with r | ⟨r1, r2⟩
    ·exact .inl r
    ·exact .inr ⟨r1, by have := fun f => e ⟨r1, f⟩; omega⟩)
 ·have q' : rd x (s i : Int) < 0 := by omega
  have k := h4 q'
  have old : ∀ y, y < n → 0 ≤ rd x (y : Int) → rd x' (y : Int) = rd x (y : Int) := fun y hy h0 => (k y hy).2 (fun o => by
   have := it_closed ht h.cl (hs.1 i hi) o; omega)
  have val : ∀ y, y < n → rd x' (y : Int) = L + 1 ∧ orb t (s i) y ∨ rd x' (y : Int) = rd x (y : Int) ∧ ¬ orb t (s i) y := fun y hy => by
   by_cases o : orb t (s i) y
   ·exact .inl ⟨(k y hy).1 o, o⟩
   ·exact .inr ⟨(k y hy).2 o, o⟩
  refine ⟨h1, fun y hy => ?_, fun y hy => ?_, ?_, fun y hy e => ?_, fun y hy m e => ?_, fun y hy h0 r => ?_⟩
  ·rcases val y hy with ⟨v1, o⟩ | ⟨v1, o⟩
   ·rw [v1, (k (t y) (ht.1 y hy)).1 (orb_trans o ⟨1, rfl⟩)]
   ·rw [v1, (k (t y) (ht.1 y hy)).2 (fun o2 => o (orb_trans o2 (orb_symm ht hy ⟨1, rfl⟩))), h.cl y hy]
  ·rcases val y hy with ⟨v1, o⟩ | ⟨v1, o⟩
   ·rw [v1]; omega
   ·rw [v1]; exact h.top y hy
  ·rw [old a ha (by rw [h.zero]; omega)]; exact h.zero
  ·rcases val y hy with ⟨v1, o⟩ | ⟨v1, o⟩
   ·omega
   ·rw [v1] at e; exact h.w0 y hy e
  ·rcases val y hy with ⟨v1, o⟩ | ⟨v1, o⟩
   ·refine ⟨s i, hs.1 i hi, orb_symm ht (hs.1 i hi) o, ?_⟩
    rw [ss i hi, old i hi (by omega)]; omega
   ·rw [v1] at e
    obtain ⟨z, hz, o2, e2⟩ := h.w1 y hy m e
    exact ⟨z, hz, o2, by rw [old _ (hs.1 z hz) (by omega)]; exact e2⟩
  ·rcases val y hy with ⟨v1, o⟩ | ⟨v1, o⟩
   ·omega
   ·rw [v1] at h0 r ⊢
    by_cases e : rd x (y : Int) = L ∧ y = i
    ·obtain ⟨e1, rfl⟩ := e
     have := (k (s y) (hs.1 y hy)).1 (orb_refl t _)
     rw [this]; omega
    ·have := h.done y hy h0 (by
      rcases r with r | ⟨r1, r2⟩
      ·exact .inl r
      ·exact .inr ⟨r1, by have := fun f => e ⟨r1, f⟩; omega⟩)
     rw [old _ (hs.1 y hy) this.1]; exact this

/-- each lower level is met -/
theorem Lev.levels {n : Nat} {t s : Nat → Nat} {a : Nat} {x : List Int} {L i : Nat} (hs : Bij n s) (h : Lev n t s a x L i) (m : Nat) : ∀ y, y < n → rd x (y : Int) = m → ∀ l, l ≤ m → ∃ z, z < n ∧ rd x (z : Int) = (l : Int) := by
 induction m with
 | zero => intro y hy e l hl; exact ⟨y, hy, by rw [e]; omega⟩
 | succ m ih =>
  intro y hy e l hl
  by_cases c : l = m + 1
  ·exact ⟨y, hy, by rw [e, c]⟩
  ·obtain ⟨z, hz, _, e2⟩ := h.w1 y hy m (by rw [e]; push_cast; rfl)
   exact ih (s z) (hs.1 z hz) e2 l (by omega)

theorem Lev.lt {n : Nat} {t s : Nat → Nat} {a : Nat} {x : List Int} {L i : Nat} (hs : Bij n s) (h : Lev n t s a x L i) {y : Nat} (hy : y < n) (h0 : 0 ≤ rd x (y : Int)) : rd x (y : Int) < n := by
 obtain ⟨m, hm⟩ : ∃ m : Nat, rd x (y : Int) = m := ⟨(rd x (y : Int)).toNat, by omega⟩
 have ex : ∀ l, ∃ z : Nat, l ≤ m → z < n ∧ rd x (z : Int) = (l : Int) := by
  intro l
  by_cases c : l ≤ m
  ·obtain ⟨z, hz, e⟩ := h.levels hs m y hy hm l c
   exact ⟨z, fun _ => ⟨hz, e⟩⟩
  ·exact ⟨0, fun d => (c d).elim⟩
 let G : Nat → Nat := fun l => Classical.choose (ex l)
 have hG : ∀ l, l ≤ m → G l < n ∧ rd x (G l : Int) = (l : Int) := fun l => Classical.choose_spec (ex l)
 have nd : ((List.range (m + 1)).map G).Nodup := nodup_map_range fun p q hp hq e => by
  have e1 := (hG p (by omega)).2
  have e2 := (hG q (by omega)).2
  rw [e] at e1; omega
 have := nd.length_le_of_subset (l₂ := List.range n) (fun z hz => by
  rw [List.mem_map] at hz
  obtain ⟨l, hl, rfl⟩ := hz
  exact List.mem_range.2 (hG l (by have := List.mem_range.1 hl; omega)).1)
 rw [List.length_map, List.length_range, List.length_range] at this
 omega

theorem Lev.dist {n : Nat} {t s : Nat → Nat} {a : Nat} {x : List Int} (ht : Bij n t) (hs : Bij n s) (ss : ∀ y, y < n → s (s y) = y) (ha : a < n) (hc : ∀ y, y < n → conn n t s a y) (h : Lev n t s a x n 0) :
 ∃ D : Nat → Nat, IsDist n t s a D ∧ (∀ y, y < n → D y < n) ∧ x = pm n D := by
 have all : ∀ y, y < n → 0 ≤ rd x (y : Int) := fun y hy => by
  have := conn_closed ht hs (fun z => z < n ∧ 0 ≤ rd x (z : Int)) (fun z hz ⟨_, h0⟩ => ⟨ht.1 z hz, by rw [h.cl z hz]; exact h0⟩) (fun z hz ⟨_, h0⟩ => ⟨hs.1 z hz, (h.done z hz h0 (.inl (h.lt hs hz h0))).1⟩) (hc y hy) ⟨ha, by rw [h.zero]; omega⟩
  exact this.2
 have cast : ∀ y, y < n → (((rd x (y : Int)).toNat : Nat) : Int) = rd x (y : Int) := fun y hy => Int.toNat_of_nonneg (all y hy)
 refine ⟨fun y => (rd x (y : Int)).toNat, ⟨⟨by show (rd x (a : Int)).toNat = 0; rw [h.zero]; rfl, fun y hy => by show (rd x (t y : Int)).toNat = _; rw [h.cl y hy], fun y hy => ?_⟩, fun y hy e => ?_, fun y m hy e => ?_⟩, fun y hy => ?_, ?_⟩
 ·have sy := hs.1 y hy
  have := (h.done (s y) sy (all _ sy) (.inl (h.lt hs sy (all _ sy)))).2
  rw [ss y hy] at this
  show (rd x (y : Int)).toNat ≤ (rd x (s y : Int)).toNat + 1
  have := cast y hy
  have := cast _ sy
  omega
 ·have := cast y hy
  exact h.w0 y hy (by omega)
 ·have := cast y hy
  obtain ⟨z, hz, o, e2⟩ := h.w1 y hy m (by omega)
  exact ⟨z, hz, o, by show (rd x (s z : Int)).toNat = m; rw [e2]; rfl⟩
 ·have := h.lt hs hy (all y hy)
  have := cast y hy
  show (rd x (y : Int)).toNat < n
  omega
 ·refine eq_pm n _ x h.len fun y hy => ?_
  have := cast y hy
  rw [this]; rfl

theorem implFar_ev {n : Nat} {t s : Nat → Nat} (hn : n ≤ 1000) (ht : Bij n t) (hs : Bij n s) (ss : ∀ y, y < n → s (s y) = y) {a : Nat} (ha : a < n) (hc : ∀ y, y < n → conn n t s a y) :
 ∃ D : Nat → Nat, IsDist n t s a D ∧ (∀ y, y < n → D y < n) ∧ Ev (fun k => impl_distancesFrom.f k (pm n t) (pm n s) (a : Int)) (pm n D) := by
 have init : ∀ d i (x : List Int), i + d = n → x.length = n → (∀ j, j < i → rd x (j : Int) = -1) → Ev (fun k => impl_distancesFrom.l0 k x (i : Int)) (List.replicate n (-1)) := by
  intro d
  induction d with
  | zero =>
   intro i x hi hx hall
   have es : x = List.replicate n (-1) := by
    refine List.ext_getElem (by simp [hx]) fun j h1 h2 => ?_
    rw [← rd_get h1, hall j (by omega)]; simp
   rw [← es]
   exact Ev.step (f := fun _ => some x) (fun k => by rw [impl_distancesFrom.l0, if_neg (by omega)]) (Ev.now _)
  | succ d ih =>
   intro i x hi hx hall
   refine Ev.step (f := fun k => impl_distancesFrom.l0 k (x.set i (-1)) ((i + 1 : Nat) : Int)) (fun k => by
    rw [impl_distancesFrom.l0, if_pos (by omega), if_pos (by omega), Int.toNat_natCast, wrap_nat (by omega)]) (ih (i + 1) _ (by omega) (by simp [hx]) ?_)
   intro j hj
   rw [rd_set (by omega)]
   by_cases c : i = j
   ·rw [if_pos c]
   ·rw [if_neg c]; exact hall j (by omega)
 have rr : ∀ y, y < n → rd (List.replicate n (-1 : Int)) (y : Int) = -1 := fun y hy => by rw [rd_get (by simpa using hy)]; simp
 obtain ⟨x1, l1, e1, _, k1⟩ := around_ev hn ht (v := 0) (by omega) (x := List.replicate n (-1)) (by simp) (fun y hy => by rw [rr _ (ht.1 y hy), rr y hy]) ha
 have k1 := k1 (by rw [rr a ha]; omega)
 have start : Lev n t s a x1 0 0 := by
  have val : ∀ y, y < n → rd x1 (y : Int) = 0 ∧ orb t a y ∨ rd x1 (y : Int) = -1 ∧ ¬ orb t a y := fun y hy => by
   by_cases o : orb t a y
   ·exact .inl ⟨(k1 y hy).1 o, o⟩
   ·exact .inr ⟨by rw [(k1 y hy).2 o, rr y hy], o⟩
  refine ⟨l1, fun y hy => ?_, fun y hy => ?_, (k1 a ha).1 (orb_refl t a), fun y hy e => ?_, fun y hy m e => ?_, fun y hy h0 c => ?_⟩
  ·rcases val y hy with ⟨v1, o⟩ | ⟨v1, o⟩
   ·rw [v1, (k1 (t y) (ht.1 y hy)).1 (orb_trans o ⟨1, rfl⟩)]
   ·rw [v1, (k1 (t y) (ht.1 y hy)).2 (fun o2 => o (orb_trans o2 (orb_symm ht hy ⟨1, rfl⟩))), rr _ (ht.1 y hy)]
  ·rcases val y hy with ⟨v1, o⟩ | ⟨v1, o⟩ <;> omega
  ·rcases val y hy with ⟨v1, o⟩ | ⟨v1, o⟩
   ·exact o
   ·omega
  ·rcases val y hy with ⟨v1, o⟩ | ⟨v1, o⟩ <;> omega
  ·rcases val y hy with ⟨v1, o⟩ | ⟨v1, o⟩ <;> omega
 have row : ∀ d i L (x : List Int), i + d = n → L ≤ 1000 → Lev n t s a x L i → ∃ x', Lev n t s a x' L n ∧ ∀ R, Ev (fun k => impl_distancesFrom.l1 k (pm n t) (pm n s) x' ((L + 1 : Nat) : Int)) R → Ev (fun k => impl_distancesFrom.l2 k (pm n t) (pm n s) x (L : Int) (i : Int)) R := by
  intro d
  induction d with
  | zero =>
   intro i L x hi hL h
   have ei : i = n := by omega
   subst ei
   exact ⟨x, h, fun R k => Ev.step (f := fun k => impl_distancesFrom.l1 k (pm i t) (pm i s) x ((L + 1 : Nat) : Int)) (fun k => by rw [impl_distancesFrom.l2, if_neg (by rw [pm_length]; omega), wrap_nat (by omega)]) k⟩
  | succ d ih =>
   intro i L x hi hL h
   have hin : i < n := by omega
   have hl := h.len
   by_cases c : rd x (i : Int) = (L : Int)
   ·obtain ⟨x1, e, h'⟩ := h.put hn ht hs ss ha hin c
    obtain ⟨x', h2, h3⟩ := ih (i + 1) L x1 (by omega) hL h'
    refine ⟨x', h2, fun R k => ?_⟩
    refine Ev.step (fun k => by rw [impl_distancesFrom.l2]) ?_
    refine Ev.pos (by rw [pm_length]; omega) (Ev.pos (by omega) (Ev.pos (by omega) (Ev.pos c ?_)))
    rw [wrap_nat (i := i) (by omega), wrap_nat (i := L) (by omega), rd_pm hin]
    exact Ev.bind1 (by push_cast; exact e) (h3 R k)
   ·obtain ⟨x', h2, h3⟩ := ih (i + 1) L x (by omega) hL (h.skip c)
    refine ⟨x', h2, fun R k => ?_⟩
    refine Ev.step (fun k => by rw [impl_distancesFrom.l2]) ?_
    refine Ev.pos (by rw [pm_length]; omega) (Ev.pos (by omega) (Ev.pos (by omega) (Ev.neg c ?_)))
    rw [wrap_nat (i := i) (by omega)]
    exact h3 R k
 have lev : ∀ d L (x : List Int), L + d = n → Lev n t s a x L 0 → ∃ x', Lev n t s a x' n 0 ∧ Ev (fun k => impl_distancesFrom.l1 k (pm n t) (pm n s) x (L : Int)) x' := by
  intro d
  induction d with
  | zero =>
   intro L x hL h
   have e : L = n := by omega
   subst e
   exact ⟨x, h, Ev.step (f := fun _ => some x) (fun k => by rw [impl_distancesFrom.l1, if_neg (by rw [pm_length]; omega)]) (Ev.now _)⟩
  | succ d ih =>
   intro L x hL h
   obtain ⟨x', h1, h2⟩ := row n 0 L x (by omega) (by omega) h
   obtain ⟨x2, h3, h4⟩ := ih (L + 1) x' (by omega) h1.next
   exact ⟨x2, h3, Ev.step (f := fun k => impl_distancesFrom.l2 k (pm n t) (pm n s) x (L : Int) 0) (fun k => by rw [impl_distancesFrom.l1, if_pos (by rw [pm_length]; omega)]) (h2 x2 h4)⟩
 obtain ⟨x, hL, e2⟩ := lev n 0 x1 (by omega) start
 obtain ⟨D, h1, h2, rfl⟩ := hL.dist ht hs ss ha hc
 refine ⟨D, h1, h2, ?_⟩
 unfold impl_distancesFrom.f
 rw [pm_length]
 exact Ev.pos (by omega) (Ev.bind1 (init n 0 _ (by omega) (by simp) (fun j hj => by omega)) (Ev.bind1 e1 e2))

/-- one dart's step -/
def stp (t s : Nat → Nat) (i : Nat) (E : Nat → Nat) : Nat → Nat := fun y => if y = t i then min (if t i = i then min (E i) (E (s i) + 1) else E (t i)) (min (E i) (E (s i) + 1)) else if y = i then min (E i) (E (s i) + 1) else E y

def upto (t s : Nat → Nat) : Nat → (Nat → Nat) → (Nat → Nat)
 | 0, E => E
 | i + 1, E => stp t s i (upto t s i E)

def rnd (t s : Nat → Nat) (n : Nat) (E : Nat → Nat) : Nat → (Nat → Nat)
 | 0 => E
 | r + 1 => upto t s n (rnd t s n E r)

theorem stp_le (t s : Nat → Nat) (i : Nat) (E : Nat → Nat) (y : Nat) : stp t s i E y ≤ E y := by
 unfold stp
 by_cases c : y = t i
 ·rw [if_pos c]
  by_cases d : t i = i
  ·rw [if_pos d, c, d]; omega
  ·rw [if_neg d, c]; omega
 ·rw [if_neg c]
  by_cases d : y = i
  ·rw [if_pos d, d]; omega
  ·rw [if_neg d]; exact Nat.le_refl _

theorem stp_i (t s : Nat → Nat) (i : Nat) (E : Nat → Nat) : stp t s i E i ≤ E (s i) + 1 := by
 unfold stp
 by_cases c : i = t i
 ·rw [if_pos c]; omega
 ·rw [if_neg c, if_pos rfl]; omega

theorem stp_t (t s : Nat → Nat) (i : Nat) (E : Nat → Nat) : stp t s i E (t i) ≤ E i := by
 unfold stp
 rw [if_pos rfl]; omega

theorem stp_ge {n : Nat} {t s : Nat → Nat} {a : Nat} {D : Nat → Nat} (h : Lip n t s a D) {i : Nat} (hi : i < n) {E : Nat → Nat} (hs : ∀ i, i < n → s i < n) (he : ∀ y, y < n → D y ≤ E y) (y : Nat) (hy : y < n) : D y ≤ stp t s i E y := by
 have e1 := h.edge i hi
 have e2 := h.turn i hi
 have e3 := he i hi
 have e4 := he (s i) (hs i hi)
 have e5 := he y hy
 unfold stp
 by_cases c : y = t i
 ·rw [if_pos c]
  subst c
  by_cases d : t i = i
  ·rw [if_pos d]; omega
  ·rw [if_neg d]; omega
 ·rw [if_neg c]
  by_cases d : y = i
  ·subst d; rw [if_pos rfl]; omega
  ·rw [if_neg d]; exact e5

theorem upto_le (t s : Nat → Nat) (i : Nat) (E : Nat → Nat) (y : Nat) : upto t s i E y ≤ E y := by
 induction i with
 | zero => exact Nat.le_refl _
 | succ i ih => exact Nat.le_trans (stp_le _ _ _ _ _) ih

theorem upto_mono (t s : Nat → Nat) (i d : Nat) (E : Nat → Nat) (y : Nat) : upto t s (i + d) E y ≤ upto t s i E y := by
 induction d with
 | zero => exact Nat.le_refl _
 | succ d ih => exact Nat.le_trans (stp_le _ _ _ _ _) ih

theorem upto_ge {n : Nat} {t s : Nat → Nat} {a : Nat} {D : Nat → Nat} (h : Lip n t s a D) (hs : ∀ i, i < n → s i < n) {E : Nat → Nat} (he : ∀ y, y < n → D y ≤ E y) : ∀ i, i ≤ n → ∀ y, y < n → D y ≤ upto t s i E y := by
 intro i
 induction i with
 | zero => intro _ y hy; exact he y hy
 | succ i ih => intro hi y hy; exact stp_ge h (by omega) hs (ih (by omega)) y hy

theorem rnd_ge {n : Nat} {t s : Nat → Nat} {a : Nat} {D : Nat → Nat} (h : Lip n t s a D) (hs : ∀ i, i < n → s i < n) {E : Nat → Nat} (he : ∀ y, y < n → D y ≤ E y) (r : Nat) : ∀ y, y < n → D y ≤ rnd t s n E r y := by
 induction r with
 | zero => exact he
 | succ r ih => exact upto_ge h hs ih n (Nat.le_refl _)

theorem rnd_le (t s : Nat → Nat) (n : Nat) (E : Nat → Nat) (r : Nat) (y : Nat) : rnd t s n E r y ≤ E y := by
 induction r with
 | zero => exact Nat.le_refl _
 | succ r ih => exact Nat.le_trans (upto_le _ _ _ _ _) ih

theorem upto_i {n : Nat} (t s : Nat → Nat) {i : Nat} (hi : i < n) (E : Nat → Nat) : upto t s n E i ≤ E (s i) + 1 := by
 have := upto_mono t s (i + 1) (n - (i + 1)) E i
 rw [show i + 1 + (n - (i + 1)) = n by omega] at this
 have := stp_i t s i (upto t s i E)
 have := upto_le t s i E (s i)
 have : upto t s (i + 1) E i = stp t s i (upto t s i E) i := rfl
 omega

theorem upto_t {n : Nat} (t s : Nat → Nat) {i : Nat} (hi : i < n) (E : Nat → Nat) : upto t s n E (t i) ≤ E i := by
 have := upto_mono t s (i + 1) (n - (i + 1)) E (t i)
 rw [show i + 1 + (n - (i + 1)) = n by omega] at this
 have := stp_t t s i (upto t s i E)
 have := upto_le t s i E i
 have : upto t s (i + 1) E (t i) = stp t s i (upto t s i E) (t i) := rfl
 omega

/-- along a cycle: from a point of the set to a point outside there is a step that leaves it -/
theorem leave {f : Nat → Nat} (S : Nat → Prop) {x y : Nat} (o : orb f x y) (hx : S x) (hy : ¬ S y) : ∃ k, S (it f k x) ∧ ¬ S (it f (k + 1) x) := by
 obtain ⟨k, rfl⟩ := o
 induction k with
 | zero => exact (hy hx).elim
 | succ k ih =>
  by_cases c : S (it f k x)
  ·exact ⟨k, c, hy⟩
  ·exact ih c

/-- where not all are exact, the next round makes one more exact -/
theorem more {n : Nat} {t s : Nat → Nat} {a : Nat} {D : Nat → Nat} (ht : Bij n t) (hs : Bij n s) (ss : ∀ y, y < n → s (s y) = y) (ha : a < n) (h : IsDist n t s a D) {E : Nat → Nat} (he : ∀ y, y < n → D y ≤ E y) (h0 : E a = D a) (hx : ∃ x, x < n ∧ E x ≠ D x) :
 ∃ x, x < n ∧ E x ≠ D x ∧ upto t s n E x = D x := by
 have ge := upto_ge h.lip hs.1 he n (Nat.le_refl _)
 have turn : ∀ x y, x < n → orb t x y → E x = D x → E y ≠ D y → ∃ x, x < n ∧ E x ≠ D x ∧ upto t s n E x = D x := by
  intro x y hx o e1 e2
  obtain ⟨k, k1, k2⟩ := leave (fun z => E z = D z) o e1 e2
  have l1 := it_lt ht k hx
  have l2 := it_lt ht (k + 1) hx
  refine ⟨it t (k + 1) x, l2, k2, ?_⟩
  have g := ge _ l2
  have u := upto_t t s l1 E (n := n)
  have e : D (t (it t k x)) = D (it t k x) := h.lip.turn _ l1
  have e3 : it t (k + 1) x = t (it t k x) := rfl
  rw [e3] at g ⊢
  have k1 : E (it t k x) = D (it t k x) := k1
  omega
 have key : ∀ m x, x < n → D x = m → E x ≠ D x → ∃ x, x < n ∧ E x ≠ D x ∧ upto t s n E x = D x := by
  intro m
  induction m with
  | zero => intro x hx d e; exact turn a x ha (h.w0 x hx d) h0 e
  | succ m ih =>
   intro x hx d e
   obtain ⟨y, hy, o, d2⟩ := h.w1 x m hx d
   by_cases c : E (s y) = D (s y)
   ·by_cases c2 : E y = D y
    ·exact turn y x hy (orb_symm ht hx o) c2 e
    ·refine ⟨y, hy, c2, ?_⟩
     have g := ge y hy
     have u := upto_i t s hy E (n := n)
     have := h.lip.orb ht hx o
     omega
   ·exact ih (s y) (hs.1 y hy) d2 c
 obtain ⟨x, hx, e⟩ := hx
 exact key _ x hx rfl e

theorem countP_lt {l : List Nat} {p q : Nat → Bool} (h : ∀ x, x ∈ l → p x = true → q x = true) (hx : ∃ x, x ∈ l ∧ p x = false ∧ q x = true) : l.countP p + 1 ≤ l.countP q := by
 induction l with
 | nil => obtain ⟨x, hx, _⟩ := hx; simp at hx
 | cons b l ih =>
  obtain ⟨x, hx, h1, h2⟩ := hx
  rw [List.countP_cons, List.countP_cons]
  have le : l.countP p ≤ l.countP q := List.countP_mono_left fun x hx => h x (List.mem_cons_of_mem _ hx)
  rcases List.mem_cons.1 hx with rfl | hx
  ·rw [h1, h2]; simp; omega
  ·have := ih (fun x hx => h x (List.mem_cons_of_mem _ hx)) ⟨x, hx, h1, h2⟩
   have hb := h b List.mem_cons_self
   cases c : p b with
   | true => rw [hb c]; simp; omega
   | false => simp; split <;> omega

theorem rnd_all {n : Nat} {t s : Nat → Nat} {a : Nat} {D : Nat → Nat} (ht : Bij n t) (hs : Bij n s) (ss : ∀ y, y < n → s (s y) = y) (ha : a < n) (h : IsDist n t s a D) {E : Nat → Nat} (he : ∀ y, y < n → D y ≤ E y) (h0 : E a = D a) :
 ∀ r, (∀ x, x < n → rnd t s n E r x = D x) ∨ r + 1 ≤ (List.range n).countP (fun x => rnd t s n E r x == D x) := by
 intro r
 induction r with
 | zero =>
  refine .inr ?_
  have := countP_lt (l := List.range n) (p := fun _ => false) (q := fun x => rnd t s n E 0 x == D x) (fun x _ e => by simp at e) ⟨a, List.mem_range.2 ha, rfl, by simp [rnd, h0]⟩
  omega
 | succ r ih =>
  have ge := rnd_ge h.lip hs.1 he r
  have a0 : rnd t s n E r a = D a := by
   have := rnd_le t s n E r a
   have := ge a ha
   omega
  have keep : ∀ x, x < n → rnd t s n E r x = D x → rnd t s n E (r + 1) x = D x := fun x hx e => by
   have := rnd_ge h.lip hs.1 he (r + 1) x hx
   have : rnd t s n E (r + 1) x ≤ rnd t s n E r x := upto_le _ _ _ _ _
   omega
  rcases ih with ih | ih
  ·exact .inl fun x hx => keep x hx (ih x hx)
  ·by_cases c : ∀ x, x < n → rnd t s n E r x = D x
   ·exact .inl fun x hx => keep x hx (c x hx)
   ·refine .inr ?_
    have ex : ∃ x, x < n ∧ rnd t s n E r x ≠ D x := Classical.byContradiction fun q => c fun x hx => Classical.byContradiction fun e => q ⟨x, hx, e⟩
    obtain ⟨x, hx, e1, e2⟩ := more ht hs ss ha h ge a0 ex
    have := countP_lt (l := List.range n) (p := fun x => rnd t s n E r x == D x) (q := fun x => rnd t s n E (r + 1) x == D x) (fun x hx e => by
     have := keep x (List.mem_range.1 hx) (by simpa using e)
     simpa using this) ⟨x, List.mem_range.2 hx, by simpa using e1, beq_iff_eq.mpr e2⟩
    omega

theorem rnd_done {n : Nat} {t s : Nat → Nat} {a : Nat} {D : Nat → Nat} (ht : Bij n t) (hs : Bij n s) (ss : ∀ y, y < n → s (s y) = y) (ha : a < n) (h : IsDist n t s a D) (hd : ∀ y, y < n → D y < n) :
 ∀ x, x < n → rnd t s n (fun y => if y = a then 0 else n) (2 * n) x = D x := by
 rcases rnd_all ht hs ss ha h (E := fun y => if y = a then 0 else n) (fun y hy => by
  by_cases c : y = a
  ·rw [if_pos c, c, h.lip.zero]; exact Nat.le_refl _
  ·rw [if_neg c]; have := hd y hy; omega) (by rw [if_pos rfl, h.lip.zero]) (2 * n) with r | r
 ·exact r
 ·have := List.countP_le_length (p := fun x => rnd t s n (fun y => if y = a then 0 else n) (2 * n) x == D x) (l := List.range n)
  rw [List.length_range] at this
  omega

theorem pm_set {n : Nat} (E : Nat → Nat) {i : Nat} (hi : i < n) (v : Nat) : (pm n E).set i (v : Int) = pm n (fun y => if y = i then v else E y) := by
 refine eq_pm n _ _ (by simp [pm_length]) fun y hy => ?_
 have := rd_set (s := pm n E) (a := i) (b := y) (v := (v : Int)) (by rw [pm_length]; exact hi)
 unfold rd at this
 rw [Int.toNat_natCast] at this
 rw [this]
 by_cases c : i = y
 ·rw [if_pos c, if_pos c.symm]
 ·rw [if_neg c, if_neg (fun e => c e.symm), pm_getD n E y hy]

theorem specFar_ev {n : Nat} {t s : Nat → Nat} (hn : n ≤ 1000) (ht : Bij n t) (hs : Bij n s) {a : Nat} (ha : a < n) :
 Ev (fun k => spec_l2Fars.f k (pm n t) (pm n s) (a : Int)) (pm n (rnd t s n (fun y => if y = a then 0 else n) (2 * n))) := by
 have bnd : ∀ r y, rnd t s n (fun y => if y = a then 0 else n) r y ≤ n := fun r y => Nat.le_trans (rnd_le t s n _ r y) (by show (if y = a then 0 else n) ≤ n; split <;> omega)
 have row : ∀ d i r (E : Nat → Nat) R, i + d = n → (∀ y, E y ≤ n) → r ≤ 5000 → Ev (fun k => spec_l2Fars.l1 k (pm n (upto t s n E)) ((r + 1 : Nat) : Int) (pm n t) (pm n s)) R → Ev (fun k => spec_l2Fars.l2 k (pm n (upto t s i E)) (r : Int) (i : Int) (pm n t) (pm n s)) R := by
  intro d
  induction d with
  | zero =>
   intro i r E R hi hE hr k
   have ei : i = n := by omega
   subst ei
   exact Ev.step (f := fun k => spec_l2Fars.l1 k (pm i (upto t s i E)) ((r + 1 : Nat) : Int) (pm i t) (pm i s)) (fun k => by rw [spec_l2Fars.l2, if_neg (by rw [pm_length]; omega), wrap_nat (by omega)]) k
  | succ d ih =>
   intro i r E R hi hE hr k
   have hin : i < n := by omega
   have l := pm_length n (upto t s i E)
   have lt := pm_length n t
   have ls := pm_length n s
   have f1 := ht.1 i hin
   have f2 := hs.1 i hin
   have b1 := Nat.le_trans (upto_le t s i E (s i)) (hE (s i))
   refine Ev.step (fun k => by rw [spec_l2Fars.l2]) ?_
   rw [rd_pm (f := s) hin, rd_pm (f := t) hin, rd_pm (f := upto t s i E) hin, rd_pm (f := upto t s i E) f2, wrap_nat (i := i) (by omega), wrap_nat (i := upto t s i E (s i)) (by omega), mn_nat, Int.toNat_natCast, pm_set _ hin]
   refine Ev.pos (by omega) (Ev.pos (by omega) (Ev.pos (by omega) (Ev.pos (by omega) (Ev.pos (by omega) (Ev.some1 ?_)))))
   rw [pm_length]
   refine Ev.pos (by omega) (Ev.pos (by omega) (Ev.pos (by omega) ?_))
   rw [rd_pm f1, rd_pm hin, mn_nat, Int.toNat_natCast, pm_set _ f1]
   have e : (fun y => if y = t i then min (if t i = i then min (upto t s i E i) (upto t s i E (s i) + 1) else upto t s i E (t i)) (if i = i then min (upto t s i E i) (upto t s i E (s i) + 1) else upto t s i E i) else if y = i then min (upto t s i E i) (upto t s i E (s i) + 1) else upto t s i E y) = upto t s (i + 1) E := by
    rw [if_pos rfl]; rfl
   rw [e]
   exact ih (i + 1) r E R (by omega) hE hr k
 have rounds : ∀ d r, r + d = 2 * n → Ev (fun k => spec_l2Fars.l1 k (pm n (rnd t s n (fun y => if y = a then 0 else n) r)) (r : Int) (pm n t) (pm n s)) (pm n (rnd t s n (fun y => if y = a then 0 else n) (2 * n))) := by
  intro d
  induction d with
  | zero =>
   intro r hr
   have er : r = 2 * n := by omega
   subst er
   exact Ev.step (f := fun _ => some (pm n (rnd t s n (fun y => if y = a then 0 else n) (2 * n)))) (fun k => by rw [spec_l2Fars.l1, if_neg (by rw [pm_length, wrap_in (by omega) (by omega)]; omega)]) (Ev.now _)
  | succ d ih =>
   intro r hr
   refine Ev.step (f := fun k => spec_l2Fars.l2 k (pm n (upto t s 0 (rnd t s n (fun y => if y = a then 0 else n) r))) (r : Int) ((0 : Nat) : Int) (pm n t) (pm n s)) (fun k => by rw [spec_l2Fars.l1, if_pos (by rw [pm_length, wrap_in (by omega) (by omega)]; omega)]; rfl) ?_
   exact row n 0 r _ _ (by omega) (bnd r) (by omega) (ih (r + 1) (by omega))
 have init : ∀ d i (x : List Int), i + d = n → x.length = n → (∀ j, j < i → rd x (j : Int) = n) → Ev (fun k => spec_l2Fars.l0 k (a : Int) x (i : Int) (pm n t) (pm n s)) (pm n (rnd t s n (fun y => if y = a then 0 else n) (2 * n))) := by
  intro d
  induction d with
  | zero =>
   intro i x hi hx hall
   have es : x = pm n (fun _ => n) := eq_pm n _ x hx fun j hj => hall j (by omega)
   refine Ev.step (f := fun k => spec_l2Fars.l1 k (pm n (rnd t s n (fun y => if y = a then 0 else n) 0)) ((0 : Nat) : Int) (pm n t) (pm n s)) (fun k => by
    rw [spec_l2Fars.l0, if_neg (by omega), if_pos (by omega), if_pos (by omega), es, Int.toNat_natCast]
    have := pm_set (fun _ => n) ha 0
    rw [show ((0 : Nat) : Int) = 0 from rfl] at this
    rw [this]; rfl) (rounds (2 * n) 0 (by omega))
  | succ d ih =>
   intro i x hi hx hall
   refine Ev.step (f := fun k => spec_l2Fars.l0 k (a : Int) (x.set i (n : Int)) ((i + 1 : Nat) : Int) (pm n t) (pm n s)) (fun k => by
    rw [spec_l2Fars.l0, if_pos (by omega), if_pos (by omega), Int.toNat_natCast, wrap_nat (by omega), hx]) (ih (i + 1) _ (by omega) (by simp [hx]) ?_)
   intro j hj
   rw [rd_set (by omega)]
   by_cases c : i = j
   ·rw [if_pos c]
   ·rw [if_neg c]; exact hall j (by omega)
 unfold spec_l2Fars.f
 rw [pm_length]
 exact Ev.pos (by omega) (Ev.pos (by omega) (init n 0 _ (by omega) (by simp) (fun j hj => by omega)))

theorem isMp_far {n : Nat} {a b : List Int} {f g : Nat → Nat} (h : IsMp n a b f g) {x : Nat} (hx : x < n) :
 ∃ D : Nat → Nat, IsDist n f g x D ∧ (∀ y, y < n → D y < n) ∧ Ev (fun k => impl_distancesFrom.f k a b (x : Int)) (pm n D) ∧ Ev (fun k => spec_l2Fars.f k a b (x : Int)) (pm n D) := by
 have l := h.le
 have ss : ∀ y, y < n → g (g y) = y := fun y hy => (h.2.2.1 y hy).2
 obtain ⟨D, h1, h2, h3⟩ := implFar_ev (by omega) h.1.2.2.1 h.2.1.2.2.1 ss hx (h.conn hx)
 refine ⟨D, h1, h2, ?_, ?_⟩
 ·rw [h.1.2.2.2, h.2.1.2.2.2]; exact h3
 ·have e := specFar_ev (by omega) h.1.2.2.1 h.2.1.2.2.1 hx
  rw [pm_ext.2 (rnd_done h.1.2.2.1 h.2.1.2.2.1 ss hx h1 h2)] at e
  rw [h.1.2.2.2, h.2.1.2.2.2]; exact e

/-- at a map's darts: the distance -/
theorem isMp_mapFar {n : Nat} {a b : List Int} {f g : Nat → Nat} (h : IsMp n a b f g) {x y : Nat} (hx : x < n) (hy : y < n) :
 ∃ D : Nat → Nat, IsDist n f g x D ∧ (∀ y, y < n → D y < n) ∧ Ev (fun k => impl_MapFar.f k a b (x : Int) (y : Int)) (D y : Int) ∧ Ev (fun k => spec_MapFar.f k a b (x : Int) (y : Int)) (D y : Int) := by
 have l := h.le
 have hv : mvalid a b = true := (mvalid_iff a b).2 ⟨n, f, g, h⟩
 have w : wrap64 ((a.length : Int) - 1) = n - 1 := by rw [l.1, wrap_in (by omega) (by omega)]
 have dart : ∀ z : Nat, z < n → Ev (fun k => spec_l2Dart.f k a b (z : Int)) true := by
  intro z hz
  unfold spec_l2Dart.f
  have e := l6In_ev (z : Int) 0 (wrap64 ((a.length : Int) - 1))
  rw [w, decide_eq_true (by omega)] at e
  refine Ev.bind1 (specMapValid_ev (by omega) (by omega)) (Ev.pos hv ?_)
  rw [w]
  exact Ev.bind1 e (Ev.now _)
 obtain ⟨D, h1, h2, h3, h4⟩ := isMp_far h hx
 have r : rd (pm n D) (y : Int) = (D y : Int) := rd_pm hy
 refine ⟨D, h1, h2, ?_, ?_⟩
 ·unfold impl_MapFar.f
  refine Ev.bind1 (implMapValid_ev a b) (Ev.pos hv (Ev.neg (by omega) (Ev.neg (by omega) (Ev.neg (by omega) (Ev.neg (by omega) (Ev.bind1 h3 (Ev.pos (by omega) (Ev.pos (by rw [pm_length]; omega) ?_))))))))
  rw [r]; exact Ev.now _
 ·unfold spec_MapFar.f
  refine Ev.bind1 (dart x hx) (Ev.pos rfl (Ev.bind1 (dart y hy) (Ev.pos rfl (Ev.bind1 h4 (Ev.pos (by omega) (Ev.pos (by rw [pm_length]; omega) ?_))))))
  rw [r]; exact Ev.now _

theorem far_both {a b : List Int} (ha : a.length ≤ 1048576) (hb : b.length ≤ 1048576) (x y : Int) : ∃ r : Int, Ev (fun k => spec_MapFar.f k a b x y) r ∧ Ev (fun k => impl_MapFar.f k a b x y) r ∧ (r = -1 ∨ ∃ n f g, ∃ (i j : Nat), IsMp n a b f g ∧ i < n ∧ j < n ∧ x = i ∧ y = j ∧ 0 ≤ r) := by
 by_cases c : mvalid a b = true
 ·obtain ⟨n, f, g, h⟩ := (mvalid_iff a b).1 c
  have l := h.le
  have w : wrap64 ((a.length : Int) - 1) = n - 1 := by rw [l.1, wrap_in (by omega) (by omega)]
  have dart : ∀ z : Int, Ev (fun k => spec_l2Dart.f k a b z) (decide (0 ≤ z ∧ z ≤ (n : Int) - 1)) := by
   intro z
   unfold spec_l2Dart.f
   refine Ev.bind1 (specMapValid_ev (by omega) (by omega)) (Ev.pos c ?_)
   rw [w]
   exact Ev.bind1 (l6In_ev _ _ _) (Ev.now _)
  by_cases d : 0 ≤ x ∧ x ≤ (n : Int) - 1
  ·by_cases d2 : 0 ≤ y ∧ y ≤ (n : Int) - 1
   ·obtain ⟨i, rfl⟩ : ∃ i : Nat, x = i := ⟨x.toNat, by omega⟩
    obtain ⟨j, rfl⟩ : ∃ j : Nat, y = j := ⟨y.toNat, by omega⟩
    obtain ⟨D, h1, h2, h3, h4⟩ := isMp_mapFar h (x := i) (y := j) (by omega) (by omega)
    exact ⟨_, h4, h3, .inr ⟨n, f, g, i, j, h, by omega, by omega, rfl, rfl, by omega⟩⟩
   ·refine ⟨-1, ?_, ?_, .inl rfl⟩
    ·unfold spec_MapFar.f
     exact Ev.bind1 (dart x) (Ev.pos (decide_eq_true d) (Ev.bind1 (dart y) (Ev.neg (by simpa using d2) (Ev.now _))))
    ·unfold impl_MapFar.f
     refine Ev.bind1 (implMapValid_ev a b) (Ev.pos c (Ev.neg (by omega) (Ev.neg (by omega) ?_)))
     by_cases e : y < 0
     ·exact Ev.pos e (Ev.now _)
     ·exact Ev.neg e (Ev.pos (by omega) (Ev.now _))
  ·refine ⟨-1, ?_, ?_, .inl rfl⟩
   ·unfold spec_MapFar.f
    exact Ev.bind1 (dart x) (Ev.neg (by simpa using d) (Ev.now _))
   ·unfold impl_MapFar.f
    refine Ev.bind1 (implMapValid_ev a b) (Ev.pos c ?_)
    by_cases e : x < 0
    ·exact Ev.pos e (Ev.now _)
    ·exact Ev.neg e (Ev.pos (by omega) (Ev.now _))
 ·refine ⟨-1, ?_, ?_, .inl rfl⟩
  ·unfold spec_MapFar.f spec_l2Dart.f
   exact Ev.bind1 (a := false) (Ev.bind1 (specMapValid_ev (by omega) (by omega)) (Ev.neg c (Ev.now _))) (Ev.neg (by simp) (Ev.now _))
  ·unfold impl_MapFar.f
   exact Ev.bind1 (implMapValid_ev a b) (Ev.neg c (Ev.now _))

theorem isMp_farI {n : Nat} {a b : List Int} {f g : Nat → Nat} (h : IsMp n a b f g) {x : Nat} (hx : x < n) :
 ∃ D : Nat → Nat, IsDist n f g x D ∧ (∀ y, y < n → D y < n) ∧ ∀ y, y < n → Ev (fun k => impl_MapFar.f k a b (x : Int) (y : Int)) (D y : Int) := by
 have l := h.le
 have hv : mvalid a b = true := (mvalid_iff a b).2 ⟨n, f, g, h⟩
 obtain ⟨D, h1, h2, h3, _⟩ := isMp_far h hx
 refine ⟨D, h1, h2, fun y hy => ?_⟩
 have r : rd (pm n D) (y : Int) = (D y : Int) := rd_pm hy
 unfold impl_MapFar.f
 refine Ev.bind1 (implMapValid_ev a b) (Ev.pos hv (Ev.neg (by omega) (Ev.neg (by omega) (Ev.neg (by omega) (Ev.neg (by omega) (Ev.bind1 h3 (Ev.pos (by omega) (Ev.pos (by rw [pm_length]; omega) ?_))))))))
 rw [r]; exact Ev.now _

theorem far_sum {p q r : Nat} (h : p ≤ q + r) : (p : Int) ≤ (q : Int) + (r : Int) := by omega

theorem far_len {a : List Int} {n z : Nat} (h : a.length = n) (hz : z < n) : (z : Int) < (a.length : Int) := by omega

theorem far_one {p : Nat} (h : p ≤ 1) : (p : Int) ≤ 1 := by omega

/-- Ways have a length. -/
theorem FnFar : laws_FnFar.Pure := by
 intro l m hl1 hl2 hw hm1 hm2 hw2
 refine Ev.rounds ?_
 unfold laws_FnFar.f
 have early : Ev (fun k => laws_FnFar.j0 k l m true) true := Ev.step (f := fun _ => some true) (fun k => by rw [laws_FnFar.j0, if_pos rfl]) (Ev.now _)
 by_cases c : (l.length : Int) > 1048576
 ·exact Ev.pos c early
 refine Ev.neg c ?_
 by_cases c2 : (m.length : Int) > 1048576
 ·rw [decide_eq_true c2]; exact early
 rw [decide_eq_false c2]
 obtain ⟨s, hs, es⟩ := open_ev hw
 obtain ⟨a, b, p', em, ha, hb, p1, p2⟩ := map_ev hs (p := 0) (by omega) (by omega) (e := 6) (by omega) (by omega)
 obtain ⟨x, q, ea, q1, q2⟩ := at_ev hs (p := p') (by omega) (by omega) (n := a.length) ha
 obtain ⟨y, q', ea', _⟩ := at_ev hs (p := q) (by omega) (by omega) (n := a.length) ha
 have dr : Ev (fun k => spec_DrawMapFar.f k l) (a, b, x, y) := by
  unfold spec_DrawMapFar.f
  exact Ev.bind1 es (Ev.bind1 em (Ev.bind1 ea (Ev.bind1 ea' (Ev.now _))))
 obtain ⟨r, e1, e2, alt⟩ := far_both (a := a) (b := b) (by omega) (by omega) x y
 refine Ev.step (fun k => by rw [laws_FnFar.j0]) ?_
 refine Ev.neg (by simp) (Ev.bind1 dr (Ev.bind1 e2 (Ev.bind1 e1 (Ev.pos rfl ?_))))
 by_cases neg : r < 0
 ·rw [decide_eq_true neg]
  refine Ev.step (fun k => by rw [laws_FnFar.j1]) ?_
  refine Ev.pos rfl ?_
  have : (r == r) = true := by simp
  rw [this]; exact Ev.now _
 rw [decide_eq_false neg]
 rcases alt with alt | ⟨n, f, g, i, j, h, hi, hj, rfl, rfl, _⟩
 ·omega
 have lh := h.le
 have lm : ((m.length : Int) % (a.length : Int)) = ((m.length % n : Nat) : Int) := by rw [lh.1]; exact (Int.natCast_emod _ _).symm
 have hr : m.length % n < n := Nat.mod_lt _ (by omega)
 obtain ⟨z, hz⟩ : ∃ z, z = m.length % n := ⟨_, rfl⟩
 rw [← hz] at lm hr
 have ht := h.1.2.2.1
 have hg := h.2.1.2.2.1
 have ss : ∀ y, y < n → g (g y) = y := fun y hy => (h.2.2.1 y hy).2
 obtain ⟨D, d1, d2, d3⟩ := isMp_farI h hi
 obtain ⟨E, f1, f2, f3⟩ := isMp_farI h hj
 obtain ⟨C, c1, c2', c3⟩ := isMp_farI h hr
 obtain rfl := ev_uniq e2 (d3 j hj)
 have sym : E i = D j := dist_symm ss ht hg hi hj d1 f1
 have tri : D j ≤ D z + C j := dist_triangle ht hg hr d1 c1 hj
 have b1 := d2 z hr
 have b2 := c2' j hj
 have tz := ht.1 z hr
 have gz := hg.1 z hr
 have ct : C (f z) = 0 := by rw [c1.lip.turn z hr, c1.lip.zero]
 have cg : C (g z) ≤ 1 := by
  have := c1.lip.edge (g z) gz
  rw [ss z hr, c1.lip.zero] at this; exact this
 have lt : D j < cc n f := dist_lt ht hg d1 hj
 have ra : rd a (z : Int) = (f z : Int) := by rw [h.1.2.2.2]; exact rd_pm hr
 have rb : rd b (z : Int) = (g z : Int) := by rw [h.2.1.2.2.2]; exact rd_pm hr
 have r0 : rd [(cc n f : Int), ((n / 2 : Nat) : Int), (cc n (fun i => f (g i)) : Int)] 0 = (cc n f : Int) := rfl
 have eb := f3 i hi
 rw [sym] at eb
 have et := c3 (f z) tz
 rw [ct] at et
 have eg := c3 (g z) gz
 refine Ev.step (fun k => by rw [laws_FnFar.j1]) ?_
 refine Ev.neg (by simp) (Ev.bind1 (countsI h) (Ev.neg (fun e => by have : (a.length : Int) = 0 := e; omega) (Ev.pos rfl (Ev.bind1 eb (Ev.pos rfl ?_)))))
 dsimp only
 rw [lm, ra, rb, r0]
 refine Ev.bind1 (d3 z hr) (Ev.bind1 (c3 j hj) ?_)
 have w : wrap64 ((D z : Int) + (C j : Int)) = (D z : Int) + (C j : Int) := wrap_in (by omega) (by omega)
 rw [w]
 have w0 : decide ((D j : Int) < (cc n f : Int)) = true := decide_eq_true (Int.ofNat_lt.2 lt)
 rw [w0]
 have g1 : (D j : Int) ≤ (D z : Int) + (C j : Int) := far_sum tri
 have g2 : (0 : Int) ≤ (z : Int) := Int.natCast_nonneg z
 have g3 : (z : Int) < (a.length : Int) := far_len lh.1 hr
 have g4 : (z : Int) < (b.length : Int) := far_len lh.2.1 hr
 have g5 : (C (g z) : Int) ≤ 1 := far_one cg
 exact Ev.pos g1 (Ev.pos g2 (Ev.pos g3 (Ev.bind1 et (Ev.pos rfl (Ev.pos g4 (Ev.bind1 eg (Ev.pos g5 (Ev.pos (by simp) (Ev.now _)))))))))
end Go.Proofs.Ytihabnfccgjfbaa.R
namespace Go.Proofs.Ytihabnfccgjfbaa.Pure
theorem FnFar : Go.Proofs.Ytihabnfccgjfbaa.F.laws_FnFar.Pure := Go.Proofs.Ytihabnfccgjfbaa.R.FnFar
end Go.Proofs.Ytihabnfccgjfbaa.Pure
