/- Of any two lists that are a map: its dual, its mirror and itself renamed lie on the same surface. -/
import Derived.Test.YtmjdmahgkidocaaF0
import Derived.Test.YtmjdmahgkidocaaF10
import Derived.Test.YtmjdmahgkidocaaF11
import Derived.Test.YtmjdmahgkidocaaF12
import Derived.Test.YtmjdmahgkidocaaF13
import Derived.Test.YtmjdmahgkidocaaF14
import Derived.Test.YtmjdmahgkidocaaF15
import Derived.Test.YtmjdmahgkidocaaF16
import Derived.Test.YtmjdmahgkidocaaF17
import Derived.Test.YtmjdmahgkidocaaF18
import Derived.Test.YtmjdmahgkidocaaF19
import Derived.Test.YtmjdmahgkidocaaF2
import Derived.Test.YtmjdmahgkidocaaF20
import Derived.Test.YtmjdmahgkidocaaF21
import Derived.Test.YtmjdmahgkidocaaF22
import Derived.Test.YtmjdmahgkidocaaF24
import Derived.Test.YtmjdmahgkidocaaF25
import Derived.Test.YtmjdmahgkidocaaF26
import Derived.Test.YtmjdmahgkidocaaF27
import Derived.Test.YtmjdmahgkidocaaF28
import Derived.Test.YtmjdmahgkidocaaF29
import Derived.Test.YtmjdmahgkidocaaF3
import Derived.Test.YtmjdmahgkidocaaF30
import Derived.Test.YtmjdmahgkidocaaF4
import Derived.Test.YtmjdmahgkidocaaF5
import Derived.Test.YtmjdmahgkidocaaF6
import Derived.Test.YtmjdmahgkidocaaF7
import Derived.Test.YtmjdmahgkidocaaF9
set_option linter.unusedVariables false
set_option linter.unusedSimpArgs false
namespace Go.Proofs.Ytmjdmahgkidocaa.Sm
open List
/-- f permutes the numbers below n. -/
def Bij (n : Nat) (f : Nat → Nat) : Prop := (∀ i, i < n → f i < n) ∧ (∀ i j, i < n → j < n → f i = f j → i = j)

/-- the list of a permutation -/
def pm (n : Nat) (f : Nat → Nat) : List Int := (List.range n).map (fun i => (f i : Int))

theorem pm_length (n : Nat) (f : Nat → Nat) : (pm n f).length = n := by simp [pm]

theorem pm_getD (n : Nat) (f : Nat → Nat) (i : Nat) (h : i < n) : (pm n f).getD i 0 = (f i : Int) := by
 simp [pm, List.getD, h]

theorem pm_ext {n : Nat} {f g : Nat → Nat} : pm n f = pm n g ↔ ∀ i, i < n → f i = g i := by
 constructor
 ·intro h i hi
  have := pm_getD n f i hi
  rw [h, pm_getD n g i hi] at this
  omega
 ·intro h
  unfold pm
  apply List.map_congr_left
  intro i hi
  rw [h i (by simpa using hi)]

theorem eq_pm (n : Nat) (f : Nat → Nat) (l : List Int) (hl : l.length = n) (h : ∀ i, i < n → l.getD i 0 = (f i : Int)) : l = pm n f := by
 apply List.ext_getElem
 ·rw [hl, pm_length]
 ·intro i h1 h2
  have := h i (by omega)
  have e := pm_getD n f i (by omega)
  simp only [List.getD_eq_getElem?_getD, List.getElem?_eq_getElem h1, Option.getD_some] at this
  simp only [List.getD_eq_getElem?_getD, List.getElem?_eq_getElem h2, Option.getD_some] at e
  rw [this, e]

/-- the permutation without its last point -/
def byp (n : Nat) (f : Nat → Nat) (i : Nat) : Nat := if f i = n then f n else f i

theorem byp_bij {n : Nat} {f : Nat → Nat} (h : Bij (n + 1) f) : Bij n (byp n f) := by
 obtain ⟨h1, h2⟩ := h
 constructor
 ·intro i hi
  unfold byp
  have a := h1 i (by omega)
  have b := h1 n (by omega)
  split
  ·rename_i e
   have : f n ≠ n := fun e2 => by have := h2 i n (by omega) (by omega) (by omega); omega
   omega
  ·omega
 ·intro i j hi hj e
  unfold byp at e
  by_cases e1 : f i = n <;> by_cases e2 : f j = n
  ·exact h2 i j (by omega) (by omega) (by omega)
  ·rw [if_pos e1, if_neg e2] at e
   have := h2 n j (by omega) (by omega) e; omega
  ·rw [if_neg e1, if_pos e2] at e
   have := h2 i n (by omega) (by omega) e; omega
  ·rw [if_neg e1, if_neg e2] at e
   exact h2 i j (by omega) (by omega) e

theorem surj {n : Nat} {f : Nat → Nat} (h : Bij n f) : ∀ y, y < n → ∃ x, x < n ∧ f x = y := by
 induction n generalizing f with
 | zero => intro y hy; omega
 | succ n ih =>
  have hb := ih (byp_bij h)
  obtain ⟨h1, h2⟩ := h
  intro y hy
  by_cases e : y = n
  ·subst e
   by_cases e1 : f y = y
   ·exact ⟨y, by omega, e1⟩
   ·have b := h1 y (by omega)
    obtain ⟨x, hx, e2⟩ := hb (f y) (by omega)
    unfold byp at e2
    split at e2
    ·rename_i e3; exact ⟨x, by omega, e3⟩
    ·have := h2 x y (by omega) (by omega) e2; omega
  ·obtain ⟨x, hx, e2⟩ := hb y (by omega)
   unfold byp at e2
   split at e2
   ·exact ⟨n, by omega, e2⟩
   ·exact ⟨x, by omega, e2⟩

/-- the inverse below n -/
def finv (n : Nat) (f : Nat → Nat) (y : Nat) : Nat := ((List.range n).find? (fun i => f i == y)).getD 0

theorem finv_spec {n : Nat} {f : Nat → Nat} (h : Bij n f) {y : Nat} (hy : y < n) : finv n f y < n ∧ f (finv n f y) = y := by
 obtain ⟨x, hx, e⟩ := surj h y hy
 unfold finv
 cases hf : (List.range n).find? (fun i => f i == y) with
 | none =>
  rw [List.find?_eq_none] at hf
  exact absurd (hf x (by simpa using hx)) (by simp [e])
 | some z =>
  have a := List.mem_of_find?_eq_some hf
  have b := List.find?_some hf
  simp at a b
  exact ⟨by simpa using a, by simpa using b⟩

theorem finv_left {n : Nat} {f : Nat → Nat} (h : Bij n f) {x : Nat} (hx : x < n) : finv n f (f x) = x := by
 have := finv_spec h (h.1 x hx)
 exact h.2 _ _ this.1 hx this.2

theorem finv_bij {n : Nat} {f : Nat → Nat} (h : Bij n f) : Bij n (finv n f) := by
 refine ⟨fun i hi => (finv_spec h hi).1, fun i j hi hj e => ?_⟩
 have a := (finv_spec h hi).2
 have b := (finv_spec h hj).2
 rw [e] at a
 omega

theorem comp_bij {n : Nat} {f g : Nat → Nat} (h : Bij n f) (k : Bij n g) : Bij n (fun i => g (f i)) :=
 ⟨fun i hi => k.1 _ (h.1 i hi), fun i j hi hj e => h.2 i j hi hj (k.2 _ _ (h.1 i hi) (h.1 j hj) e)⟩

theorem bij_congr {n : Nat} {f g : Nat → Nat} (h : Bij n f) (e : ∀ i, i < n → f i = g i) : Bij n g :=
 ⟨fun i hi => by rw [← e i hi]; exact h.1 i hi, fun i j hi hj k => h.2 i j hi hj (by rw [e i hi, e j hj]; exact k)⟩

/-- f done m times -/
def it (f : Nat → Nat) : Nat → Nat → Nat
 | 0, x => x
 | m + 1, x => f (it f m x)

theorem it_add (f : Nat → Nat) (a b x : Nat) : it f (a + b) x = it f a (it f b x) := by
 induction a with
 | zero => simp [it]
 | succ a ih => rw [Nat.succ_add]; simp [it, ih]

theorem it_succ' (f : Nat → Nat) (a x : Nat) : it f (a + 1) x = it f a (f x) := it_add f a 1 x

theorem it_lt {n : Nat} {f : Nat → Nat} (h : Bij n f) (m : Nat) {x : Nat} (hx : x < n) : it f m x < n := by
 induction m with
 | zero => exact hx
 | succ m ih => exact h.1 _ ih

theorem it_inj {n : Nat} {f : Nat → Nat} (h : Bij n f) (m : Nat) {x y : Nat} (hx : x < n) (hy : y < n) (e : it f m x = it f m y) : x = y := by
 induction m with
 | zero => exact e
 | succ m ih => exact ih (h.2 _ _ (it_lt h m hx) (it_lt h m hy) e)

/-- pigeonhole: more than n numbers below n: two are equal -/
theorem pigeon (n : Nat) (g : Nat → Nat) (h : ∀ i, i ≤ n → g i < n) : ∃ i j, i < j ∧ j ≤ n ∧ g i = g j := by
 induction n generalizing g with
 | zero => exact absurd (h 0 (by omega)) (by omega)
 | succ n ih =>
  by_cases c : ∃ i, i < n + 1 ∧ g i = g (n + 1)
  ·obtain ⟨i, hi, e⟩ := c; exact ⟨i, n + 1, hi, by omega, e⟩
  ·have c' : ∀ i, i < n + 1 → g i ≠ g (n + 1) := fun i hi e => c ⟨i, hi, e⟩
   obtain ⟨i, j, hij, hj, e⟩ := ih (fun i => if g i = n then g (n + 1) else g i) (fun i hi => by
    have a := h i (by omega)
    have b := h (n + 1) (by omega)
    have d := c' i (by omega)
    show (if g i = n then g (n + 1) else g i) < n
    split <;> omega)
   refine ⟨i, j, hij, by omega, ?_⟩
   have di := c' i (by omega)
   have dj := c' j (by omega)
   by_cases e1 : g i = n <;> by_cases e2 : g j = n
   ·omega
   ·rw [if_pos e1, if_neg e2] at e; omega
   ·rw [if_neg e1, if_pos e2] at e; omega
   ·rw [if_neg e1, if_neg e2] at e; exact e

theorem it_back {n : Nat} {f : Nat → Nat} (h : Bij n f) {x : Nat} (hx : x < n) : ∃ m, 0 < m ∧ m ≤ n ∧ it f m x = x := by
 obtain ⟨i, j, hij, hj, e⟩ := pigeon n (fun m => it f m x) (fun m _ => it_lt h m hx)
 refine ⟨j - i, by omega, by omega, ?_⟩
 have : it f (i + (j - i)) x = it f i (it f (j - i) x) := it_add ..
 rw [show i + (j - i) = j by omega] at this
 exact (it_inj h i hx (it_lt h _ hx) (e.trans this)).symm

/-- the least positive m with p m, below a bound; else 0 -/
def least (p : Nat → Bool) (n : Nat) : Nat := ((List.range n).find? (fun m => p (m + 1))).elim 0 (· + 1)

theorem find_range_some {n : Nat} {p : Nat → Bool} {m : Nat} (h : (List.range n).find? p = some m) : m < n ∧ p m = true ∧ ∀ k, k < m → p k = false := by
 induction n generalizing m with
 | zero => simp at h
 | succ n ih =>
  rw [List.range_succ, List.find?_append] at h
  cases e : (List.range n).find? p with
  | some z =>
   rw [e] at h; simp at h; subst h
   have := ih e
   exact ⟨by omega, this.2⟩
  | none =>
   rw [e] at h
   simp at h
   obtain ⟨h1, rfl⟩ := h
   refine ⟨by omega, h1, fun k hk => ?_⟩
   rw [List.find?_eq_none] at e
   simpa using e k (by simpa using hk)

theorem least_spec {p : Nat → Bool} {n m : Nat} (hm : 0 < m) (hn : m ≤ n) (h : p m = true) :
 0 < least p n ∧ least p n ≤ m ∧ p (least p n) = true ∧ ∀ k, 0 < k → k < least p n → p k = false := by
 unfold least
 cases e : (List.range n).find? (fun m => p (m + 1)) with
 | none =>
  rw [List.find?_eq_none] at e
  have := e (m - 1) (by simp; omega)
  rw [show m - 1 + 1 = m by omega] at this
  exact absurd h this
 | some z =>
  obtain ⟨h1, h2, h3⟩ := find_range_some e
  simp only [Option.elim_some]
  refine ⟨by omega, ?_, h2, fun k hk hk2 => ?_⟩
  ·apply Nat.le_of_not_lt
   intro hlt
   have := h3 (m - 1) (by omega)
   rw [show m - 1 + 1 = m by omega, h] at this
   cases this
  ·have := h3 (k - 1) (by omega)
   rwa [show k - 1 + 1 = k by omega] at this

/-- how long the cycle of x is -/
def per (n : Nat) (f : Nat → Nat) (x : Nat) : Nat := least (fun m => it f m x == x) n

theorem per_spec {n : Nat} {f : Nat → Nat} (h : Bij n f) {x : Nat} (hx : x < n) :
 0 < per n f x ∧ per n f x ≤ n ∧ it f (per n f x) x = x ∧ ∀ k, 0 < k → k < per n f x → it f k x ≠ x := by
 obtain ⟨m, h1, h2, h3⟩ := it_back h hx
 obtain ⟨a, b, c, d⟩ := least_spec (p := fun m => it f m x == x) (n := n) h1 h2 (by simpa using h3)
 refine ⟨a, by unfold per; omega, ?_, fun k hk hk2 => by simpa using d k hk hk2⟩
 have := eq_of_beq c
 exact this

theorem it_mul_per {n : Nat} {f : Nat → Nat} (h : Bij n f) {x : Nat} (hx : x < n) (q : Nat) : it f (per n f x * q) x = x := by
 induction q with
 | zero => rfl
 | succ q ih => rw [Nat.mul_succ, it_add, (per_spec h hx).2.2.1, ih]

theorem it_mod_per {n : Nat} {f : Nat → Nat} (h : Bij n f) {x : Nat} (hx : x < n) (m : Nat) : it f m x = it f (m % per n f x) x := by
 conv => lhs; rw [← Nat.mod_add_div m (per n f x)]
 rw [it_add, it_mul_per h hx]

theorem map_perm {n : Nat} {f : Nat → Nat} (h : Bij n f) : ((List.range n).map f).Perm (List.range n) := by
 rw [perm_iff_count]
 intro a
 have nd : ((List.range n).map f).Nodup := by
  unfold Nodup
  rw [pairwise_map]
  have := nodup_range (n := n)
  unfold Nodup at this
  rw [pairwise_iff_getElem] at this ⊢
  intro i j hi hj hij e
  have hi' : i < n := by simpa using hi
  have hj' : j < n := by simpa using hj
  simp only [getElem_range] at e
  have := h.2 i j hi' hj' e
  omega
 rw [nd.count, (nodup_range (n := n)).count]
 have : a ∈ (List.range n).map f ↔ a ∈ List.range n := by
  simp only [mem_map, mem_range]
  constructor
  ·rintro ⟨x, hx, rfl⟩; exact h.1 x hx
  ·intro ha; exact surj h a ha
 by_cases c : a ∈ List.range n
 ·rw [if_pos c, if_pos (this.2 c)]
 ·rw [if_neg c, if_neg (fun d => c (this.1 d))]

/-- the parity of a sum of bits -/
def xs (g : Nat → Bool) : List Nat → Bool
 | [] => false
 | a :: l => xor (g a) (xs g l)

theorem xs_append (g : Nat → Bool) (l r : List Nat) : xs g (l ++ r) = xor (xs g l) (xs g r) := by
 induction l with
 | nil => simp [xs]
 | cons a l ih => simp [xs, ih]

theorem xs_perm (g : Nat → Bool) {l r : List Nat} (h : l.Perm r) : xs g l = xs g r := by
 induction h with
 | nil => rfl
 | cons a _ ih => simp [xs, ih]
 | swap a b l => simp only [xs]; rw [← Bool.xor_assoc, ← Bool.xor_assoc, Bool.xor_comm (g b)]
 | trans _ _ h1 h2 => exact h1.trans h2

theorem xs_xor (g k : Nat → Bool) (l : List Nat) : xs (fun a => xor (g a) (k a)) l = xor (xs g l) (xs k l) := by
 induction l with
 | nil => rfl
 | cons a l ih =>
  simp only [xs, ih]
  cases g a <;> cases k a <;> simp

theorem xs_congr {g k : Nat → Bool} {l : List Nat} (h : ∀ a, a ∈ l → g a = k a) : xs g l = xs k l := by
 induction l with
 | nil => rfl
 | cons a l ih => simp only [xs]; rw [h a (by simp), ih (fun b hb => h b (by simp [hb]))]

theorem xs_map (g : Nat → Bool) (f : Nat → Nat) (l : List Nat) : xs g (l.map f) = xs (fun a => g (f a)) l := by
 induction l with
 | nil => rfl
 | cons a l ih => simp [xs, ih]

theorem xs_false {g : Nat → Bool} {l : List Nat} (h : ∀ a, a ∈ l → g a = false) : xs g l = false := by
 induction l with
 | nil => rfl
 | cons a l ih => simp only [xs]; rw [h a (by simp), ih (fun b hb => h b (by simp [hb]))]; rfl

/-- the parity over all pairs of a list, the earlier one first -/
def px (t : Nat → Nat → Bool) : List Nat → Bool
 | [] => false
 | a :: l => xor (xs (t a) l) (px t l)

theorem px_perm {t : Nat → Nat → Bool} (s : ∀ a b, t a b = t b a) {l r : List Nat} (h : l.Perm r) : px t l = px t r := by
 induction h with
 | nil => rfl
 | cons a h ih => simp only [px]; rw [ih, xs_perm _ h]
 | swap a b l =>
  simp only [px, xs]
  rw [s b a]
  cases t a b <;> cases xs (t a) l <;> cases xs (t b) l <;> cases px t l <;> rfl
 | trans _ _ h1 h2 => exact h1.trans h2

theorem px_xor (t u : Nat → Nat → Bool) (l : List Nat) : px (fun a b => xor (t a b) (u a b)) l = xor (px t l) (px u l) := by
 induction l with
 | nil => rfl
 | cons a l ih =>
  simp only [px, ih, xs_xor]
  cases xs (t a) l <;> cases xs (u a) l <;> cases px t l <;> cases px u l <;> rfl

theorem px_map (t : Nat → Nat → Bool) (f : Nat → Nat) (l : List Nat) : px t (l.map f) = px (fun a b => t (f a) (f b)) l := by
 induction l with
 | nil => rfl
 | cons a l ih => simp only [List.map_cons, px, ih, xs_map]

theorem px_congr {t u : Nat → Nat → Bool} {l : List Nat} (nd : l.Nodup) (h : ∀ a b, a ∈ l → b ∈ l → a ≠ b → t a b = u a b) : px t l = px u l := by
 induction l with
 | nil => rfl
 | cons a l ih =>
  simp only [px]
  rw [nodup_cons] at nd
  rw [ih nd.2 (fun x y hx hy e => h x y (by simp [hx]) (by simp [hy]) e), xs_congr (fun b hb => h a b (by simp) (by simp [hb]) (fun e => nd.1 (e ▸ hb)))]

theorem px_snoc (t : Nat → Nat → Bool) (l : List Nat) (a : Nat) : px t (l ++ [a]) = xor (px t l) (xs (fun b => t b a) l) := by
 induction l with
 | nil => simp [px, xs]
 | cons b l ih =>
  simp only [List.cons_append, px, xs, ih, xs_append]
  cases xs (t b) l <;> cases t b a <;> cases px t l <;> cases xs (fun b => t b a) l <;> rfl

/-- is the number of turned pairs odd? -/
def odd (n : Nat) (f : Nat → Nat) : Bool := px (fun a b => decide (f b < f a)) (List.range n)

theorem odd_id (n : Nat) : odd n (fun i => i) = false := by
 unfold odd
 induction n with
 | zero => rfl
 | succ n ih =>
  rw [List.range_succ, px_snoc, ih, xs_false]
  ·rfl
  ·intro a ha; simp at ha ⊢; omega

theorem odd_congr {n : Nat} {f g : Nat → Nat} (h : ∀ i, i < n → f i = g i) : odd n f = odd n g := by
 unfold odd
 apply px_congr nodup_range
 intro a b ha hb _
 rw [h a (by simpa using ha), h b (by simpa using hb)]

theorem odd_comp {n : Nat} {f g : Nat → Nat} (hf : Bij n f) (hg : Bij n g) : odd n (fun i => g (f i)) = xor (odd n f) (odd n g) := by
 have e1 : odd n (fun i => g (f i)) = px (fun a b => decide (g b < g a)) ((List.range n).map f) := by rw [px_map]; rfl
 have e2 : odd n f = px (fun a b => decide (b < a)) ((List.range n).map f) := by rw [px_map]; rfl
 have nd : ((List.range n).map f).Nodup := (map_perm hf).nodup_iff.2 nodup_range
 have hm : ∀ a, a ∈ (List.range n).map f → a < n := fun a ha => by simpa using (map_perm hf).mem_iff.1 ha
 let t : Nat → Nat → Bool := fun a b => xor (decide (g b < g a)) (decide (b < a))
 let u : Nat → Nat → Bool := fun a b => xor (decide (g (max a b) < g (min a b))) false
 have ht : ∀ a b, a < n → b < n → a ≠ b → t a b = u a b := by
  intro a b ha hb e
  have gi : g a ≠ g b := fun c => e (hg.2 a b ha hb c)
  show xor (decide (g b < g a)) (decide (b < a)) = xor (decide (g (max a b) < g (min a b))) false
  by_cases c : b < a
  ·rw [Nat.max_eq_left (by omega), Nat.min_eq_right (by omega)]
   by_cases d : g b < g a
   ·simp [c, d]; omega
   ·simp [c, d]; omega
  ·rw [Nat.max_eq_right (by omega), Nat.min_eq_left (by omega)]
   simp [c]
 have hs : ∀ a b, u a b = u b a := by intro a b; show xor _ false = xor _ false; rw [Nat.max_comm, Nat.min_comm]
 have e3 : px t ((List.range n).map f) = px t (List.range n) := by
  rw [px_congr (u := u) nd (fun a b ha hb e => ht a b (hm a ha) (hm b hb) e), px_perm hs (map_perm hf), ← px_congr nodup_range (fun a b ha hb e => ht a b (by simpa using ha) (by simpa using hb) e)]
 have e4 : px t (List.range n) = odd n g := by
  have := px_xor (fun a b => decide (g b < g a)) (fun a b => decide (b < a)) (List.range n)
  have i := odd_id n
  unfold odd at i
  rw [i] at this
  simpa [t, odd] using this
 have e5 : px t ((List.range n).map f) = xor (odd n (fun i => g (f i))) (odd n f) := by
  rw [e1, e2]
  exact px_xor (fun a b => decide (g b < g a)) (fun a b => decide (b < a)) _
 rw [e5, ] at e3
 rw [e4] at e3
 cases h1 : odd n (fun i => g (f i)) <;> cases h2 : odd n f <;> cases h3 : odd n g <;> rw [h1, h2, h3] at e3 <;> first | rfl | cases e3

/-- two points change places -/
def swp (a b i : Nat) : Nat := if i = a then b else if i = b then a else i

theorem swp_bij {n a b : Nat} (ha : a < n) (hb : b < n) : Bij n (swp a b) := by
 constructor
 ·intro i hi; unfold swp; split <;> (try split) <;> omega
 ·intro i j _ _ e; unfold swp at e; split at e <;> split at e <;> (try split at e) <;> (try split at e) <;> omega

theorem odd_adj (n : Nat) : odd (n + 2) (swp n (n + 1)) = true := by
 have h : ∀ k, k ≤ n → odd k (swp n (n + 1)) = false := by
  intro k hk
  rw [odd_congr (g := fun i => i), odd_id]
  intro i hi; unfold swp; rw [if_neg (by omega), if_neg (by omega)]
 have a := h n (by omega)
 unfold odd at a ⊢
 rw [List.range_succ, px_snoc, List.range_succ, px_snoc, a, xs_append, xs_false, xs_false]
 ·simp [xs, swp]
 ·intro i hi; simp at hi; unfold swp; simp; rw [if_neg (show ¬ i = n by omega), if_neg (show ¬ i = n + 1 by omega)]; omega
 ·intro i hi; simp at hi; unfold swp; simp; rw [if_neg (show ¬ i = n by omega), if_neg (show ¬ i = n + 1 by omega)]; omega

theorem odd_swp {n i : Nat} (h : i < n) : odd (n + 1) (swp i n) = true := by
 obtain ⟨m, rfl⟩ : ∃ m, n = m + 1 := ⟨n - 1, by omega⟩
 by_cases e : i = m
 ·subst e; exact odd_adj i
 ·have hs := swp_bij (n := m + 2) (a := i) (b := m) (by omega) (by omega)
  have ht := swp_bij (n := m + 2) (a := m) (b := m + 1) (by omega) (by omega)
  have e1 : ∀ j, j < m + 2 → (fun j => swp i m (swp m (m + 1) (swp i m j))) j = swp i (m + 1) j := by
   intro j hj
   show swp i m (swp m (m + 1) (swp i m j)) = swp i (m + 1) j
   by_cases c1 : j = i
   ·have a1 : swp i m j = m := by unfold swp; rw [if_pos c1]
    have a2 : swp m (m + 1) m = m + 1 := by unfold swp; rw [if_pos rfl]
    have a3 : swp i m (m + 1) = m + 1 := by unfold swp; rw [if_neg (by omega), if_neg (by omega)]
    have a4 : swp i (m + 1) j = m + 1 := by unfold swp; rw [if_pos c1]
    rw [a1, a2, a3, a4]
   by_cases c2 : j = m
   ·have a1 : swp i m j = i := by unfold swp; rw [if_neg c1, if_pos c2]
    have a2 : swp m (m + 1) i = i := by unfold swp; rw [if_neg (by omega), if_neg (by omega)]
    have a3 : swp i m i = m := by unfold swp; rw [if_pos rfl]
    have a4 : swp i (m + 1) j = j := by unfold swp; rw [if_neg c1, if_neg (by omega)]
    rw [a1, a2, a3, a4, c2]
   have a1 : swp i m j = j := by unfold swp; rw [if_neg c1, if_neg c2]
   rw [a1]
   by_cases c3 : j = m + 1
   ·have a2 : swp m (m + 1) j = m := by unfold swp; rw [if_neg c2, if_pos c3]
    have a3 : swp i m m = i := by unfold swp; rw [if_neg (by omega), if_pos rfl]
    have a4 : swp i (m + 1) j = i := by unfold swp; rw [if_neg c1, if_pos c3]
    rw [a2, a3, a4]
   ·have a2 : swp m (m + 1) j = j := by unfold swp; rw [if_neg c2, if_neg c3]
    have a4 : swp i (m + 1) j = j := by unfold swp; rw [if_neg c1, if_neg c3]
    rw [a2, a1, a4]
  have e2 := odd_comp hs (comp_bij ht hs)
  have e3 := odd_comp ht hs
  have e4 := odd_congr e1
  rw [← e4]
  show odd (m + 2) _ = true
  rw [e2, e3, odd_adj]
  cases odd (m + 2) (swp i m) <;> rfl

/-- is i the least of its cycle? -/
def isMin (n : Nat) (f : Nat → Nat) (i : Nat) : Bool := (List.range n).all fun k => decide (i ≤ it f k i)

/-- the number of cycles -/
def cc (n : Nat) (f : Nat → Nat) : Nat := ((List.range n).filter (isMin n f)).length

theorem isMin_iff {n : Nat} {f : Nat → Nat} (h : Bij n f) {i : Nat} (hi : i < n) : isMin n f i = true ↔ ∀ k, i ≤ it f k i := by
 unfold isMin
 rw [List.all_eq_true]
 constructor
 ·intro a k
  rw [it_mod_per h hi]
  have p := per_spec h hi
  have := a (k % per n f i) (by rw [mem_range]; have := Nat.mod_lt k p.1; omega)
  simpa using this
 ·intro a k _
  simpa using a k

theorem cc_le (n : Nat) (f : Nat → Nat) : cc n f ≤ n := by
 unfold cc
 have := List.length_filter_le (isMin n f) (List.range n)
 simpa using this

theorem byp_reach {n : Nat} {f : Nat → Nat} (h : Bij (n + 1) f) {i : Nat} (hi : i < n) (k : Nat) : ∃ k', it (byp n f) k i = it f k' i := by
 induction k with
 | zero => exact ⟨0, rfl⟩
 | succ k ih =>
  obtain ⟨k', e⟩ := ih
  show ∃ k', byp n f (it (byp n f) k i) = it f k' i
  rw [e]
  unfold byp
  by_cases c : f (it f k' i) = n
  ·rw [if_pos c]; exact ⟨k' + 2, by show f n = f (f (it f k' i)); rw [c]⟩
  ·rw [if_neg c]; exact ⟨k' + 1, rfl⟩

theorem reach_byp {n : Nat} {f : Nat → Nat} (h : Bij (n + 1) f) {i : Nat} (hi : i < n) (k : Nat) :
 (∃ k', it f k i = it (byp n f) k' i) ∨ (it f k i = n ∧ f n ≠ n ∧ ∃ k', f n = it (byp n f) k' i) := by
 have hb := byp_bij h
 induction k with
 | zero => exact .inl ⟨0, rfl⟩
 | succ k ih =>
  rcases ih with ⟨k', e⟩ | ⟨e1, e2, k', e3⟩
  ·have hz := it_lt hb k' hi
   by_cases c : f (it f k i) = n
   ·right
    have d : f n ≠ n := by
     intro d
     have := h.2 (it f k i) n (by omega) (by omega) (by omega)
     omega
    refine ⟨c, d, k' + 1, ?_⟩
    show f n = byp n f (it (byp n f) k' i)
    unfold byp at e ⊢
    rw [← e, if_pos c]
   ·left
    refine ⟨k' + 1, ?_⟩
    show f (it f k i) = byp n f (it (byp n f) k' i)
    rw [← e]
    show _ = byp n f (it f k i)
    unfold byp
    rw [if_neg c]
  ·left
   refine ⟨k', ?_⟩
   show f (it f k i) = _
   rw [e1]; exact e3

theorem isMin_byp {n : Nat} {f : Nat → Nat} (h : Bij (n + 1) f) {i : Nat} (hi : i < n) : isMin (n + 1) f i = isMin n (byp n f) i := by
 rw [Bool.eq_iff_iff, isMin_iff h (by omega), isMin_iff (byp_bij h) hi]
 constructor
 ·intro a k
  obtain ⟨k', e⟩ := byp_reach h hi k
  rw [e]; exact a k'
 ·intro a k
  rcases reach_byp h hi k with ⟨k', e⟩ | ⟨e, _, _⟩
  ·rw [e]; exact a k'
  ·omega

theorem it_fix {f : Nat → Nat} {x : Nat} (h : f x = x) (k : Nat) : it f k x = x := by
 induction k with
 | zero => rfl
 | succ k ih => show f (it f k x) = x; rw [ih, h]

theorem isMin_last {n : Nat} {f : Nat → Nat} (h : Bij (n + 1) f) : isMin (n + 1) f n = decide (f n = n) := by
 rw [Bool.eq_iff_iff, isMin_iff h (by omega)]
 constructor
 ·intro a
  have b := a 1
  have c := h.1 n (by omega)
  simp [it] at b ⊢
  omega
 ·intro a k
  rw [it_fix (by simpa using a)]; exact Nat.le_refl _

theorem cc_succ {n : Nat} {f : Nat → Nat} (h : Bij (n + 1) f) : cc (n + 1) f = cc n (byp n f) + (if f n = n then 1 else 0) := by
 unfold cc
 rw [List.range_succ, List.filter_append, List.length_append]
 congr 1
 ·rw [List.filter_congr (fun i hi => isMin_byp h (by simpa using hi))]
 ·simp only [List.filter_cons, List.filter_nil, isMin_last h]
  by_cases c : f n = n <;> simp [c]

theorem isMin_congr {n : Nat} {f g : Nat → Nat} (hf : Bij n f) (e : ∀ i, i < n → f i = g i) {i : Nat} (hi : i < n) : isMin n f i = isMin n g i := by
 have : ∀ k, it f k i = it g k i := by
  intro k
  induction k with
  | zero => rfl
  | succ k ih => show f (it f k i) = g (it g k i); rw [← ih, e _ (it_lt hf k hi)]
 unfold isMin
 congr 1; funext k; rw [this]

theorem cc_congr {n : Nat} {f g : Nat → Nat} (hf : Bij n f) (e : ∀ i, i < n → f i = g i) : cc n f = cc n g := by
 unfold cc
 rw [List.filter_congr (fun i hi => isMin_congr hf e (by simpa using hi))]

theorem cc_odd {n : Nat} {f : Nat → Nat} (h : Bij n f) : (n - cc n f) % 2 = (odd n f).toNat := by
 induction n generalizing f with
 | zero => rfl
 | succ n ih =>
  have hb := byp_bij h
  have i1 := ih hb
  have le := cc_le n (byp n f)
  rw [cc_succ h]
  by_cases c : f n = n
  ·rw [if_pos c]
   have e : ∀ i, i < n → byp n f i = f i := by
    intro i hi
    unfold byp
    rw [if_neg]
    intro d
    have := h.2 i n (by omega) (by omega) (by omega)
    omega
   rw [odd_congr e] at i1
   have : odd (n + 1) f = odd n f := by
    unfold odd
    rw [List.range_succ, px_snoc, xs_false]
    ·simp
    ·intro i hi
     have hi' : i < n := by simpa using hi
     have := h.1 i (by omega)
     simp; omega
   rw [this, ← i1]
   omega
  ·rw [if_neg c]
   obtain ⟨i, hi, e⟩ := surj h n (by omega)
   have hin : i < n := by
    apply Nat.lt_of_le_of_ne (by omega)
    intro d; subst d; exact c e
   let F : Nat → Nat := fun j => if j = n then n else byp n f j
   have hF : Bij (n + 1) F := by
    constructor
    ·intro j hj; show (if j = n then n else byp n f j) < n + 1
     split
     ·omega
     ·have := hb.1 j (by omega); omega
    ·intro a b ha hb' e2
     have e3 : (if a = n then n else byp n f a) = (if b = n then n else byp n f b) := e2
     by_cases c1 : a = n <;> by_cases c2 : b = n
     ·omega
     ·rw [if_pos c1, if_neg c2] at e3; have := hb.1 b (by omega); omega
     ·rw [if_neg c1, if_pos c2] at e3; have := hb.1 a (by omega); omega
     ·rw [if_neg c1, if_neg c2] at e3; exact hb.2 a b (by omega) (by omega) e3
   have e1 : ∀ j, j < n + 1 → f j = F (swp i n j) := by
    intro j hj
    show f j = if swp i n j = n then n else byp n f (swp i n j)
    by_cases c1 : j = i
    ·have : swp i n j = n := by unfold swp; rw [if_pos c1]
     rw [if_pos this, c1, e]
    ·by_cases c2 : j = n
     ·have : swp i n j = i := by unfold swp; rw [if_neg c1, if_pos c2]
      rw [this, if_neg (by omega)]
      unfold byp; rw [if_pos e, c2]
     ·have : swp i n j = j := by unfold swp; rw [if_neg c1, if_neg c2]
      rw [this, if_neg c2]
      unfold byp
      rw [if_neg]
      intro d
      exact c1 (h.2 j i hj (by omega) (by omega))
   have o1 := odd_congr e1
   have o2 := odd_comp (swp_bij (n := n + 1) (a := i) (b := n) (by omega) (by omega)) hF
   rw [odd_swp hin] at o2
   have o3 : odd (n + 1) F = odd n (byp n f) := by
    have : odd n F = odd n (byp n f) := odd_congr (fun j hj => by show (if j = n then n else byp n f j) = _; rw [if_neg (by omega)])
    rw [← this]
    unfold odd
    rw [List.range_succ, px_snoc, xs_false]
    ·simp
    ·intro j hj
     have hj' : j < n := by simpa using hj
     have := hF.1 j (by omega)
     have e4 : F n = n := by show (if n = n then n else byp n f n) = n; rw [if_pos rfl]
     rw [e4]
     simp; omega
   rw [o1, o2, o3]
   have : n + 1 - (cc n (byp n f) + 0) = (n - cc n (byp n f)) + 1 := by omega
   rw [this]
   cases d : odd n (byp n f) <;> rw [d] at i1 <;> simp at i1 ⊢ <;> omega

/-- the points that f leads to from x -/
def orb (f : Nat → Nat) (x y : Nat) : Prop := ∃ k, it f k x = y

theorem orb_refl (f : Nat → Nat) (x : Nat) : orb f x x := ⟨0, rfl⟩

theorem orb_trans {f : Nat → Nat} {x y z : Nat} : orb f x y → orb f y z → orb f x z := by
 rintro ⟨a, rfl⟩ ⟨b, rfl⟩
 exact ⟨b + a, it_add f b a x⟩

theorem orb_lt {n : Nat} {f : Nat → Nat} (h : Bij n f) {x y : Nat} (hx : x < n) : orb f x y → y < n := by
 rintro ⟨k, rfl⟩; exact it_lt h k hx

theorem orb_symm {n : Nat} {f : Nat → Nat} (h : Bij n f) {x y : Nat} (hx : x < n) : orb f x y → orb f y x := by
 rintro ⟨k, rfl⟩
 have p := per_spec h hx
 refine ⟨per n f x - k % per n f x, ?_⟩
 rw [it_mod_per h hx k, ← it_add]
 have := Nat.mod_lt k p.1
 rw [show per n f x - k % per n f x + k % per n f x = per n f x by omega]
 exact p.2.2.1

/-- the cycle of x, from x on -/
def cyc (n : Nat) (f : Nat → Nat) (x : Nat) : List Nat := (List.range (per n f x)).map (fun k => it f k x)

theorem cyc_length (n : Nat) (f : Nat → Nat) (x : Nat) : (cyc n f x).length = per n f x := by simp [cyc]

theorem mem_cyc {n : Nat} {f : Nat → Nat} (h : Bij n f) {x y : Nat} (hx : x < n) : y ∈ cyc n f x ↔ orb f x y := by
 unfold cyc orb
 simp only [mem_map, mem_range]
 constructor
 ·rintro ⟨k, _, e⟩; exact ⟨k, e⟩
 ·rintro ⟨k, e⟩
  exact ⟨k % per n f x, Nat.mod_lt _ (per_spec h hx).1, by rw [← it_mod_per h hx]; exact e⟩

theorem it_inj_per {n : Nat} {f : Nat → Nat} (h : Bij n f) {x : Nat} (hx : x < n) {a b : Nat} (ha : a < per n f x) (hb : b < per n f x) (e : it f a x = it f b x) : a = b := by
 have key : ∀ a b, a < b → b < per n f x → it f a x = it f b x → False := by
  intro a b hab hb e
  have : it f (a + (b - a)) x = it f a (it f (b - a) x) := it_add ..
  rw [show a + (b - a) = b by omega, ← e] at this
  exact (per_spec h hx).2.2.2 (b - a) (by omega) (by omega) (it_inj h a hx (it_lt h _ hx) this).symm
 rcases Nat.lt_trichotomy a b with c | c | c
 ·exact (key a b c hb e).elim
 ·exact c
 ·exact (key b a c ha e.symm).elim

theorem nodup_map_range {m : Nat} {g : Nat → Nat} (h : ∀ a b, a < m → b < m → g a = g b → a = b) : ((List.range m).map g).Nodup := by
 unfold Nodup
 rw [pairwise_map]
 have := nodup_range (n := m)
 unfold Nodup at this
 rw [pairwise_iff_getElem] at this ⊢
 intro i j hi hj hij e
 have hi' : i < m := by simpa using hi
 have hj' : j < m := by simpa using hj
 simp only [getElem_range] at e
 have := h i j hi' hj' e
 omega

theorem cyc_nodup {n : Nat} {f : Nat → Nat} (h : Bij n f) {x : Nat} (hx : x < n) : (cyc n f x).Nodup :=
 nodup_map_range fun _ _ ha hb e => it_inj_per h hx ha hb e

theorem isMin_iff' {n : Nat} {f : Nat → Nat} (h : Bij n f) {i : Nat} (hi : i < n) : isMin n f i = true ↔ ∀ j, j < i → ¬ orb f j i := by
 rw [isMin_iff h hi]
 constructor
 ·rintro a j hj ⟨k, e⟩
  obtain ⟨k', e'⟩ := orb_symm h (by omega : j < n) ⟨k, e⟩
  have := a k'
  omega
 ·intro a k
  apply Nat.le_of_not_lt
  intro hlt
  exact a _ hlt (orb_symm h hi ⟨k, rfl⟩)

/-- the least points of the cycles -/
def mins (n : Nat) (f : Nat → Nat) : List Nat := (List.range n).filter (isMin n f)

theorem mem_mins {n : Nat} {f : Nat → Nat} {i : Nat} : i ∈ mins n f ↔ i < n ∧ isMin n f i = true := by
 unfold mins; rw [mem_filter, mem_range]

/-- the least point of the cycle of x -/
theorem min_of {n : Nat} {f : Nat → Nat} (h : Bij n f) {x : Nat} (hx : x < n) : ∃ m, m < n ∧ isMin n f m = true ∧ orb f m x ∧ m ≤ x := by
 induction x using Nat.strongRecOn with
 | _ x ih =>
  by_cases c : isMin n f x = true
  ·exact ⟨x, hx, c, orb_refl f x, Nat.le_refl _⟩
  ·rw [isMin_iff' h hx] at c
   have : ∃ j, j < x ∧ orb f j x := by
    apply Classical.byContradiction
    intro d
    exact c fun j hj e => d ⟨j, hj, e⟩
   obtain ⟨j, hj, o⟩ := this
   obtain ⟨m, h1, h2, h3, h4⟩ := ih j hj (by omega)
   exact ⟨m, h1, h2, orb_trans h3 o, by omega⟩

theorem mins_eq {n : Nat} {f : Nat → Nat} (h : Bij n f) {a b x : Nat} (ha : a < n) (hb : b < n) (ma : isMin n f a = true) (mb : isMin n f b = true) (oa : orb f a x) (ob : orb f b x) : a = b := by
 have o1 : orb f a b := orb_trans oa (orb_symm h hb ob)
 have o2 : orb f b a := orb_symm h ha o1
 rcases Nat.lt_trichotomy a b with c | c | c
 ·exact ((isMin_iff' h hb).1 mb a c o1).elim
 ·exact c
 ·exact ((isMin_iff' h ha).1 ma b c o2).elim

/-- all cycles -/
def cycs (n : Nat) (f : Nat → Nat) : List (List Nat) := (mins n f).map (cyc n f)

theorem flat_nodup {n : Nat} {f : Nat → Nat} (h : Bij n f) (l : List Nat) (nd : l.Nodup) (hl : ∀ a, a ∈ l → a < n ∧ isMin n f a = true) : ((l.map (cyc n f)).flatten).Nodup := by
 induction l with
 | nil => simp
 | cons a l ih =>
  rw [nodup_cons] at nd
  obtain ⟨h1, h2⟩ := hl a (by simp)
  rw [List.map_cons, List.flatten_cons, nodup_append]
  refine ⟨cyc_nodup h h1, ih nd.2 (fun b hb => hl b (by simp [hb])), ?_⟩
  intro x hx y hy e
  subst e
  rw [mem_flatten] at hy
  obtain ⟨c, hc, hxc⟩ := hy
  rw [mem_map] at hc
  obtain ⟨b, hb, rfl⟩ := hc
  obtain ⟨h3, h4⟩ := hl b (by simp [hb])
  have := mins_eq h h1 h3 h2 h4 ((mem_cyc h h1).1 hx) ((mem_cyc h h3).1 hxc)
  subst this
  exact nd.1 hb

theorem mins_nodup (n : Nat) (f : Nat → Nat) : (mins n f).Nodup := (nodup_range (n := n)).filter _

theorem flat_perm {n : Nat} {f : Nat → Nat} (h : Bij n f) : ((cycs n f).flatten).Perm (List.range n) := by
 rw [perm_iff_count]
 intro a
 have nd : ((cycs n f).flatten).Nodup := flat_nodup h (mins n f) (mins_nodup n f) (fun a ha => mem_mins.1 ha)
 rw [nd.count, (nodup_range (n := n)).count]
 have : a ∈ (cycs n f).flatten ↔ a ∈ List.range n := by
  rw [mem_flatten, mem_range]
  constructor
  ·rintro ⟨c, hc, hac⟩
   unfold cycs at hc
   rw [mem_map] at hc
   obtain ⟨b, hb, rfl⟩ := hc
   have := mem_mins.1 hb
   exact orb_lt h this.1 ((mem_cyc h this.1).1 hac)
  ·intro ha
   obtain ⟨m, h1, h2, h3, _⟩ := min_of h ha
   exact ⟨cyc n f m, by unfold cycs; rw [mem_map]; exact ⟨m, mem_mins.2 ⟨h1, h2⟩, rfl⟩, (mem_cyc h h1).2 h3⟩
 by_cases c : a ∈ List.range n
 ·rw [if_pos c, if_pos (this.2 c)]
 ·rw [if_neg c, if_neg (fun d => c (this.1 d))]

theorem flat_length {n : Nat} {f : Nat → Nat} (h : Bij n f) : ((cycs n f).flatten).length = n := by
 rw [(flat_perm h).length_eq, length_range]

theorem per_eq {n : Nat} {f : Nat → Nat} (h : Bij n f) {x m : Nat} (hx : x < n) (h0 : 0 < m) (h1 : it f m x = x) (h2 : ∀ k, 0 < k → k < m → it f k x ≠ x) : per n f x = m := by
 have p := per_spec h hx
 rcases Nat.lt_trichotomy (per n f x) m with c | c | c
 ·exact (h2 _ p.1 c p.2.2.1).elim
 ·exact c
 ·exact (p.2.2.2 m h0 c h1).elim

/-- all points of a cycle have one period -/
theorem per_it {n : Nat} {f : Nat → Nat} (h : Bij n f) {x : Nat} (hx : x < n) (a : Nat) : per n f (it f a x) = per n f x := by
 have p := per_spec h hx
 refine per_eq h (it_lt h a hx) p.1 ?_ ?_
 ·rw [← it_add, Nat.add_comm, it_add, p.2.2.1]
 ·intro k hk hk2 e
  rw [← it_add, Nat.add_comm, it_add] at e
  exact p.2.2.2 k hk hk2 (it_inj h a (it_lt h k hx) hx e)

theorem per_orb {n : Nat} {f : Nat → Nat} (h : Bij n f) {x y : Nat} (hx : x < n) (o : orb f x y) : per n f y = per n f x := by
 obtain ⟨k, rfl⟩ := o; exact per_it h hx k

theorem it_conj_lt {n : Nat} {f g k : Nat → Nat} (hf : Bij n f) (e : ∀ x, x < n → k (g x) = g (f x)) (m : Nat) {x : Nat} (hx : x < n) : it k m (g x) = g (it f m x) := by
 induction m with
 | zero => rfl
 | succ m ih => show k (it k m (g x)) = g (f (it f m x)); rw [ih, e _ (it_lt hf m hx)]

theorem per_conj {n : Nat} {f g k : Nat → Nat} (hf : Bij n f) (hg : Bij n g) (hk : Bij n k) (e : ∀ x, x < n → k (g x) = g (f x)) {x : Nat} (hx : x < n) : per n k (g x) = per n f x := by
 have p := per_spec hf hx
 refine per_eq hk (hg.1 x hx) p.1 ?_ ?_
 ·rw [it_conj_lt hf e _ hx, p.2.2.1]
 ·intro m hm hm2 d
  rw [it_conj_lt hf e _ hx] at d
  exact p.2.2.2 m hm hm2 (hg.2 _ _ (it_lt hf m hx) hx d)

theorem it_inv {n : Nat} {f g : Nat → Nat} (hf : Bij n f) (e : ∀ x, x < n → g (f x) = x) (m : Nat) {x : Nat} (hx : x < n) : it g m (it f m x) = x := by
 induction m with
 | zero => rfl
 | succ m ih => rw [it_succ' g]; show it g m (g (f (it f m x))) = x; rw [e _ (it_lt hf m hx), ih]

theorem per_inv {n : Nat} {f g : Nat → Nat} (hf : Bij n f) (hg : Bij n g) (e : ∀ x, x < n → g (f x) = x) {x : Nat} (hx : x < n) : per n g x = per n f x := by
 have p := per_spec hf hx
 refine per_eq hg hx p.1 ?_ ?_
 ·have := it_inv hf e (per n f x) hx
  rwa [p.2.2.1] at this
 ·intro m hm hm2 d
  have := it_inv hf e m hx
  have e2 : it g m (it f m x) = it g m x := by rw [this, d]
  exact p.2.2.2 m hm hm2 (it_inj hg m (it_lt hf m hx) hx e2)

/-- how many cycles have the length L -/
def cl (n : Nat) (f : Nat → Nat) (L : Nat) : Nat := (mins n f).countP (fun m => per n f m == L)

theorem countP_const {l : List Nat} {p : Nat → Bool} {b : Bool} (h : ∀ a, a ∈ l → p a = b) : l.countP p = if b then l.length else 0 := by
 cases b with
 | true => rw [if_pos rfl, countP_eq_length]; exact h
 | false => rw [if_neg (by simp), countP_eq_zero]; intro a ha; simp [h a ha]

theorem count_flat {n : Nat} {f : Nat → Nat} (h : Bij n f) (L : Nat) (l : List Nat) (hl : ∀ a, a ∈ l → a < n) : (l.map (cyc n f)).flatten.countP (fun x => per n f x == L) = l.countP (fun m => per n f m == L) * L := by
 induction l with
 | nil => simp
 | cons a l ih =>
  have ha := hl a (by simp)
  rw [List.map_cons, List.flatten_cons, countP_append, ih (fun b hb => hl b (by simp [hb])), countP_cons]
  rw [countP_const (b := per n f a == L) (fun x hx => by rw [per_orb h ha ((mem_cyc h ha).1 hx)]), cyc_length]
  by_cases c : per n f a = L
  ·simp [c, Nat.add_mul, Nat.add_comm]
  ·simp [c]

theorem cl_mul {n : Nat} {f : Nat → Nat} (h : Bij n f) (L : Nat) : cl n f L * L = (List.range n).countP (fun x => per n f x == L) := by
 rw [← (flat_perm h).countP_eq]
 unfold cl cycs
 rw [count_flat h L _ (fun a ha => (mem_mins.1 ha).1)]

theorem countP_bij {n : Nat} {g : Nat → Nat} (hg : Bij n g) (p : Nat → Bool) : (List.range n).countP p = (List.range n).countP (fun x => p (g x)) := by
 rw [← (map_perm hg).countP_eq, countP_map]; rfl

theorem countP_congr' {l : List Nat} {p q : Nat → Bool} (h : ∀ a, a ∈ l → p a = q a) : l.countP p = l.countP q := by
 apply List.countP_congr
 intro a ha
 rw [h a ha]

theorem cl_conj {n : Nat} {f g k : Nat → Nat} (hf : Bij n f) (hg : Bij n g) (hk : Bij n k) (e : ∀ x, x < n → k (g x) = g (f x)) {L : Nat} (hL : 0 < L) : cl n k L = cl n f L := by
 apply Nat.eq_of_mul_eq_mul_right hL
 rw [cl_mul hk, cl_mul hf, countP_bij hg]
 apply countP_congr'
 intro x hx
 rw [per_conj hf hg hk e (by simpa using hx)]

theorem cl_inv {n : Nat} {f g : Nat → Nat} (hf : Bij n f) (hg : Bij n g) (e : ∀ x, x < n → g (f x) = x) {L : Nat} (hL : 0 < L) : cl n g L = cl n f L := by
 apply Nat.eq_of_mul_eq_mul_right hL
 rw [cl_mul hf, cl_mul hg]
 apply countP_congr'
 intro x hx
 rw [per_inv hf hg e (by simpa using hx)]

/-- the sum of g 1, .., g n -/
def sumTo (g : Nat → Nat) : Nat → Nat
 | 0 => 0
 | n + 1 => sumTo g n + g (n + 1)

theorem sumTo_congr {g k : Nat → Nat} {n : Nat} (h : ∀ L, 0 < L → g L = k L) : sumTo g n = sumTo k n := by
 induction n with
 | zero => rfl
 | succ n ih => simp only [sumTo]; rw [ih, h _ (by omega)]

theorem count_split (n : Nat) (v : Nat → Nat) (l : List Nat) (h : ∀ a, a ∈ l → 0 < v a ∧ v a ≤ n) : l.length = sumTo (fun L => l.countP (fun m => v m == L)) n := by
 induction n generalizing l with
 | zero =>
  cases l with
  | nil => rfl
  | cons a l => have := h a (by simp); omega
 | succ n ih =>
  have e := List.length_eq_countP_add_countP (fun m => v m == n + 1) (l := l)
  have i := ih (l.filter (fun m => !(v m == n + 1))) (fun a ha => by
   rw [mem_filter] at ha
   have := h a ha.1
   have d : v a ≠ n + 1 := by simpa using ha.2
   omega)
  have e2 : sumTo (fun L => (l.filter (fun m => !(v m == n + 1))).countP (fun m => v m == L)) n = sumTo (fun L => l.countP (fun m => v m == L)) n := by
   have : ∀ k, k ≤ n → sumTo (fun L => (l.filter (fun m => !(v m == n + 1))).countP (fun m => v m == L)) k = sumTo (fun L => l.countP (fun m => v m == L)) k := by
    intro k hk
    induction k with
    | zero => rfl
    | succ k ihk =>
     simp only [sumTo]
     rw [ihk (by omega), countP_filter]
     congr 1
     apply countP_congr'
     intro a _
     by_cases c : v a = k + 1
     ·simp [c]; omega
     ·simp [c]
   exact this n (Nat.le_refl _)
  rw [e2] at i
  simp only [sumTo]
  rw [← i, e, countP_eq_length_filter (p := fun a => decide ¬(v a == n + 1) = true), Nat.add_comm]
  congr 2
  apply List.filter_congr
  intro a _
  by_cases c : v a = n + 1 <;> simp [c]

theorem cc_sum {n : Nat} {f : Nat → Nat} (h : Bij n f) : cc n f = sumTo (cl n f) n := by
 have := count_split n (per n f) (mins n f) (fun a ha => by
  have := per_spec h (mem_mins.1 ha).1
  exact ⟨this.1, this.2.1⟩)
 exact this

theorem cc_conj {n : Nat} {f g k : Nat → Nat} (hf : Bij n f) (hg : Bij n g) (hk : Bij n k) (e : ∀ x, x < n → k (g x) = g (f x)) : cc n k = cc n f := by
 rw [cc_sum hf, cc_sum hk]
 exact sumTo_congr fun L hL => cl_conj hf hg hk e hL

theorem cc_inv {n : Nat} {f g : Nat → Nat} (hf : Bij n f) (hg : Bij n g) (e : ∀ x, x < n → g (f x) = x) : cc n g = cc n f := by
 rw [cc_sum hf, cc_sum hg]
 exact sumTo_congr fun L hL => cl_inv hf hg e hL

/-- no coloring that both keep tells i from j -/
def conn (n : Nat) (a b : Nat → Nat) (i j : Nat) : Prop := ∀ c : Nat → Nat, (∀ x, x < n → c (a x) = c x ∧ c (b x) = c x) → c i = c j

theorem conn_refl (n : Nat) (a b : Nat → Nat) (i : Nat) : conn n a b i i := fun _ _ => rfl

theorem conn_symm {n : Nat} {a b : Nat → Nat} {i j : Nat} (h : conn n a b i j) : conn n a b j i := fun c hc => (h c hc).symm

theorem conn_trans {n : Nat} {a b : Nat → Nat} {i j k : Nat} (h : conn n a b i j) (h' : conn n a b j k) : conn n a b i k := fun c hc => (h c hc).trans (h' c hc)

theorem conn_a {n : Nat} {a b : Nat → Nat} {i : Nat} (h : i < n) : conn n a b i (a i) := fun _ hc => (hc i h).1.symm

theorem conn_b {n : Nat} {a b : Nat → Nat} {i : Nat} (h : i < n) : conn n a b i (b i) := fun _ hc => (hc i h).2.symm

/-- o tells the least point that each point leads to -/
structure IsOrb (n : Nat) (a b o : Nat → Nat) : Prop where
 keep : ∀ x, x < n → o (a x) = o x ∧ o (b x) = o x
 le : ∀ x, x < n → o x ≤ x
 conn : ∀ x, x < n → conn n a b x (o x)

theorem IsOrb.lt {n : Nat} {a b o : Nat → Nat} (h : IsOrb n a b o) {x : Nat} (hx : x < n) : o x < n := Nat.lt_of_le_of_lt (h.le x hx) hx

theorem IsOrb.unique {n : Nat} {a b o o' : Nat → Nat} (h : IsOrb n a b o) (h' : IsOrb n a b o') : ∀ x, x < n → o x = o' x := by
 have key : ∀ o o', IsOrb n a b o → IsOrb n a b o' → ∀ x, x < n → o' x ≤ o x := by
  intro o o' h h' x hx
  have e := h.conn x hx o' h'.keep
  rw [e]
  exact h'.le _ (h.lt hx)
 intro x hx
 exact Nat.le_antisymm (key _ _ h' h x hx) (key _ _ h h' x hx)

theorem IsOrb.idem {n : Nat} {a b o : Nat → Nat} (h : IsOrb n a b o) {x : Nat} (hx : x < n) : o (o x) = o x :=
 (h.conn x hx o h.keep).symm

/-- a set that one permutation maps into itself: it doesn't map others into it -/
theorem closed_back {n : Nat} {f : Nat → Nat} (h : Bij n f) (S : Nat → Prop) (hS : ∀ x, x < n → S x → S (f x)) {x : Nat} (hx : x < n) (hf : S (f x)) : S x := by
 have key : ∀ k, ∀ y, y < n → S y → S (it f k y) := by
  intro k
  induction k with
  | zero => intro y _ h; exact h
  | succ k ih => intro y hy h'; exact hS _ (it_lt h k hy) (ih y hy h')
 have p := per_spec h hx
 have := key (per n f x - 1) (f x) (h.1 x hx) hf
 rw [← it_succ', show per n f x - 1 + 1 = per n f x by omega, p.2.2.1] at this
 exact this

/-- a set that both map into itself and that holds a point holds all that it leads to -/
theorem conn_closed {n : Nat} {a b : Nat → Nat} (ha : Bij n a) (hb : Bij n b) (S : Nat → Prop) (h1 : ∀ x, x < n → S x → S (a x)) (h2 : ∀ x, x < n → S x → S (b x)) {i j : Nat} (hc : conn n a b i j) (hi : S i) : S j := by
 have d : ∀ x, Decidable (S x) := fun x => Classical.propDecidable _
 have := hc (fun x => if S x then 1 else 0) (fun x hx => by
  constructor
  ·by_cases c : S x
   ·rw [if_pos c, if_pos (h1 x hx c)]
   ·rw [if_neg c, if_neg (fun e => c (closed_back ha S h1 hx e))]
  ·by_cases c : S x
   ·rw [if_pos c, if_pos (h2 x hx c)]
   ·rw [if_neg c, if_neg (fun e => c (closed_back hb S h2 hx e))])
 simp only [if_pos hi] at this
 by_cases c : S j
 ·exact c
 ·rw [if_neg c] at this; cases this

def put (o : List Nat) (d : Nat) : List Nat := if d ∈ o then o else o ++ [d]

def bstep (t s : Nat → Nat) (o : List Nat) (x : Nat) : List Nat := put (put o (t x)) (s x)

def bord (t s : Nat → Nat) (root : Nat) : Nat → List Nat
 | 0 => [root]
 | k + 1 => match (bord t s root k)[k]? with
  | none => bord t s root k
  | some x => bstep t s (bord t s root k) x

theorem put_pre (o : List Nat) (d : Nat) : o <+: put o d := by
 unfold put; split
 ·exact prefix_refl _
 ·exact prefix_append ..

theorem mem_put {o : List Nat} {d x : Nat} : x ∈ put o d ↔ x ∈ o ∨ x = d := by
 unfold put; split
 ·rename_i h
  constructor
  ·exact .inl
  ·rintro (h' | rfl)
   ·exact h'
   ·exact h
 ·simp

theorem put_nodup {o : List Nat} {d : Nat} (h : o.Nodup) : (put o d).Nodup := by
 unfold put; split
 ·exact h
 ·rename_i hd
  rw [nodup_append]
  refine ⟨h, by simp, ?_⟩
  intro a ha b hb e
  simp at hb
  subst hb; subst e
  exact hd ha

theorem bstep_pre (t s : Nat → Nat) (o : List Nat) (x : Nat) : o <+: bstep t s o x := (put_pre _ _).trans (put_pre _ _)

theorem bord_pre (t s : Nat → Nat) (root k : Nat) : bord t s root k <+: bord t s root (k + 1) := by
 show _ <+: (match (bord t s root k)[k]? with
  | none => bord t s root k
  | some x => bstep t s (bord t s root k) x)
 split
 ·exact prefix_refl _
 ·exact bstep_pre ..

theorem bord_pre' (t s : Nat → Nat) (root : Nat) {k m : Nat} (h : k ≤ m) : bord t s root k <+: bord t s root m := by
 induction m with
 | zero => rw [show k = 0 by omega]; exact prefix_refl _
 | succ m ih =>
  by_cases c : k = m + 1
  ·rw [c]; exact prefix_refl _
  ·exact (ih (by omega)).trans (bord_pre t s root m)

theorem bord_nodup (t s : Nat → Nat) (root k : Nat) : (bord t s root k).Nodup := by
 induction k with
 | zero => simp [bord]
 | succ k ih =>
  unfold bord
  split
  ·exact ih
  ·exact put_nodup (put_nodup ih)

theorem bord_lt {n : Nat} {t s : Nat → Nat} (ht : ∀ i, i < n → t i < n) (hs : ∀ i, i < n → s i < n) {root : Nat} (hr : root < n) (k : Nat) : ∀ x, x ∈ bord t s root k → x < n := by
 induction k with
 | zero => intro x hx; simp [bord] at hx; omega
 | succ k ih =>
  intro x hx
  unfold bord at hx
  split at hx
  ·exact ih x hx
  ·rename_i y hy
   have hy' := ih y (mem_of_getElem? hy)
   unfold bstep at hx
   rw [mem_put, mem_put] at hx
   rcases hx with (h | rfl) | rfl
   ·exact ih x h
   ·exact ht y hy'
   ·exact hs y hy'

theorem bord_len_le {n : Nat} {t s : Nat → Nat} (ht : ∀ i, i < n → t i < n) (hs : ∀ i, i < n → s i < n) {root : Nat} (hr : root < n) (k : Nat) : (bord t s root k).length ≤ n := by
 have := (bord_nodup t s root k).length_le_of_subset (l₂ := List.range n) (fun x hx => by rw [mem_range]; exact bord_lt ht hs hr k x hx)
 simpa using this

theorem pre_get {l m : List Nat} (h : l <+: m) {i : Nat} {x : Nat} (e : l[i]? = some x) : m[i]? = some x := by
 obtain ⟨r, rfl⟩ := h
 rw [getElem?_append_left (by
  rw [getElem?_eq_some_iff] at e
  exact e.1)]
 exact e

theorem bord_has {t s : Nat → Nat} {root k i x : Nat} (hi : i < k) (e : (bord t s root k)[i]? = some x) (hk : i < (bord t s root i).length) : t x ∈ bord t s root k ∧ s x ∈ bord t s root k := by
 have e2 : (bord t s root i)[i]? = some x := by
  rw [getElem?_eq_getElem hk]
  have := pre_get (bord_pre' t s root (Nat.le_of_lt hi)) (getElem?_eq_getElem hk)
  rw [e] at this; exact this.symm
 have e3 : bord t s root (i + 1) = bstep t s (bord t s root i) x := by
  show (match (bord t s root i)[i]? with
   | none => bord t s root i
   | some x => bstep t s (bord t s root i) x) = _
  rw [e2]
 have p := bord_pre' t s root (show i + 1 ≤ k by omega)
 constructor
 ·apply p.subset; rw [e3]; unfold bstep; rw [mem_put, mem_put]; exact .inl (.inr rfl)
 ·apply p.subset; rw [e3]; unfold bstep; rw [mem_put]; exact .inr rfl

/-- while it goes on there is a next dart -/
theorem bord_alive {n : Nat} {t s : Nat → Nat} (ht : Bij n t) (hs : Bij n s) {root : Nat} (hr : root < n) (hc : ∀ x, x < n → conn n t s root x) (k : Nat) (hk : k < n) : k < (bord t s root k).length := by
 induction k with
 | zero => simp [bord]
 | succ k ih =>
  have i1 := ih (by omega)
  apply Nat.lt_of_not_le
  intro c
  have le := (bord_pre t s root k).length_le
  have len : (bord t s root (k + 1)).length = k + 1 := by omega
  have all : ∀ i, i < k + 1 → i < (bord t s root i).length := by
   intro i hi
   apply Nat.lt_of_not_le
   intro c2
   -- too short at i: then it stays so
   have stuck : ∀ m, i ≤ m → bord t s root m = bord t s root i := by
    intro m hm
    induction m with
    | zero => rw [show i = 0 by omega]
    | succ m ihm =>
     by_cases d : i = m + 1
     ·rw [d]
     ·have e := ihm (by omega)
      show (match (bord t s root m)[m]? with
       | none => bord t s root m
       | some x => bstep t s (bord t s root m) x) = _
      rw [e, getElem?_eq_none (by omega)]
   have := stuck k (by omega)
   rw [this] at i1
   omega
  have cl : ∀ x, x ∈ bord t s root (k + 1) → t x ∈ bord t s root (k + 1) ∧ s x ∈ bord t s root (k + 1) := by
   intro x hx
   obtain ⟨i, hi, e⟩ := mem_iff_getElem.1 hx
   exact bord_has (i := i) (by omega) (by rw [getElem?_eq_getElem hi, e]) (all i (by omega))
  have full : ∀ x, x < n → x ∈ bord t s root (k + 1) := fun x hx =>
   conn_closed ht hs (fun x => x ∈ bord t s root (k + 1)) (fun x _ h => (cl x h).1) (fun x _ h => (cl x h).2) (hc x hx) ((bord_pre' t s root (Nat.zero_le _)).subset (by simp [bord]))
  have := (nodup_range (n := n)).length_le_of_subset (l₂ := bord t s root (k + 1)) (fun x hx => full x (by simpa using hx))
  rw [length_range, len] at this
  omega

theorem bord_full {n : Nat} {t s : Nat → Nat} (ht : Bij n t) (hs : Bij n s) {root : Nat} (hr : root < n) (hc : ∀ x, x < n → conn n t s root x) : (bord t s root n).length = n ∧ ∀ x, x < n → x ∈ bord t s root n := by
 have cl : ∀ x, x ∈ bord t s root n → t x ∈ bord t s root n ∧ s x ∈ bord t s root n := by
  intro x hx
  obtain ⟨i, hi, e⟩ := mem_iff_getElem.1 hx
  have le := bord_len_le ht.1 hs.1 hr n
  exact bord_has (i := i) (by omega) (by rw [getElem?_eq_getElem hi, e]) (bord_alive ht hs hr hc i (by omega))
 have full : ∀ x, x < n → x ∈ bord t s root n := fun x hx =>
  conn_closed ht hs (fun x => x ∈ bord t s root n) (fun x _ h => (cl x h).1) (fun x _ h => (cl x h).2) (hc x hx) ((bord_pre' t s root (Nat.zero_le _)).subset (by simp [bord]))
 have := (nodup_range (n := n)).length_le_of_subset (l₂ := bord t s root n) (fun x hx => full x (by simpa using hx))
 rw [length_range] at this
 exact ⟨Nat.le_antisymm (bord_len_le ht.1 hs.1 hr n) this, full⟩

/-- the new name of a dart -/
def name (n : Nat) (t s : Nat → Nat) (root x : Nat) : Nat := (bord t s root n).idxOf x

theorem name_bij {n : Nat} {t s : Nat → Nat} (ht : Bij n t) (hs : Bij n s) {root : Nat} (hr : root < n) (hc : ∀ x, x < n → conn n t s root x) : Bij n (name n t s root) := by
 obtain ⟨h1, h2⟩ := bord_full ht hs hr hc
 constructor
 ·intro i hi
  have := idxOf_lt_length_of_mem (h2 i hi)
  rw [h1] at this; exact this
 ·intro i j hi hj e
  have a := idxOf_lt_length_of_mem (h2 i hi)
  have b := idxOf_lt_length_of_mem (h2 j hj)
  have ea := getElem_idxOf a
  have eb := getElem_idxOf b
  unfold name at e
  rw [← ea, ← eb]
  congr 1

theorem bord_head (t s : Nat → Nat) (root k : Nat) : (bord t s root k)[0]? = some root :=
 pre_get (bord_pre' t s root (Nat.zero_le k)) (by simp [bord])

theorem name_root (n : Nat) (t s : Nat → Nat) (root : Nat) : name n t s root root = 0 := by
 have h := bord_head t s root n
 unfold name
 cases e : bord t s root n with
 | nil => rw [e] at h; simp at h
 | cons a l => rw [e] at h; simp at h; subst h; simp [idxOf_cons]

theorem put_map {n : Nat} {g : Nat → Nat} (hg : Bij n g) {o : List Nat} {d : Nat} (ho : ∀ x, x ∈ o → x < n) (hd : d < n) : put (o.map g) (g d) = (put o d).map g := by
 unfold put
 have : g d ∈ o.map g ↔ d ∈ o := by
  rw [mem_map]
  constructor
  ·rintro ⟨x, hx, e⟩
   rw [← hg.2 x d (ho x hx) hd e]; exact hx
  ·intro h; exact ⟨d, h, rfl⟩
 by_cases c : d ∈ o
 ·rw [if_pos c, if_pos (this.2 c)]
 ·rw [if_neg c, if_neg (fun e => c (this.1 e))]
  simp

/-- a renamed map's darts come in the renamed order -/
theorem bord_map {n : Nat} {t s g t' s' : Nat → Nat} (ht : Bij n t) (hs : Bij n s) (hg : Bij n g) (et : ∀ x, x < n → t' (g x) = g (t x)) (es : ∀ x, x < n → s' (g x) = g (s x)) {root : Nat} (hr : root < n) (k : Nat) :
 bord t' s' (g root) k = (bord t s root k).map g := by
 induction k with
 | zero => simp [bord]
 | succ k ih =>
  show (match (bord t' s' (g root) k)[k]? with
   | none => bord t' s' (g root) k
   | some x => bstep t' s' (bord t' s' (g root) k) x) = (match (bord t s root k)[k]? with
   | none => bord t s root k
   | some x => bstep t s (bord t s root k) x).map g
  rw [ih, getElem?_map]
  have lt := bord_lt ht.1 hs.1 hr k
  cases e : (bord t s root k)[k]? with
  | none => rfl
  | some x =>
   have hx := lt x (mem_of_getElem? e)
   show bstep t' s' ((bord t s root k).map g) (g x) = _
   unfold bstep
   rw [et x hx, es x hx, put_map hg lt (ht.1 x hx), put_map hg (fun y hy => ?_) (hs.1 x hx)]
   rw [mem_put] at hy
   rcases hy with h | rfl
   ·exact lt y h
   ·exact ht.1 x hx

theorem idxOf_map {n : Nat} {g : Nat → Nat} (hg : Bij n g) (l : List Nat) (hl : ∀ x, x ∈ l → x < n) {d : Nat} (hd : d < n) : (l.map g).idxOf (g d) = l.idxOf d := by
 induction l with
 | nil => rfl
 | cons a l ih =>
  have ha := hl a (by simp)
  rw [List.map_cons, idxOf_cons, idxOf_cons, ih (fun x hx => hl x (by simp [hx]))]
  by_cases c : a = d
  ·subst c; rw [show (g a == g a) = true by simp, show (a == a) = true by simp]
  ·have : g a ≠ g d := fun e => c (hg.2 a d ha hd e)
   rw [show (g a == g d) = false by simpa using this, show (a == d) = false by simpa using c]

theorem name_map {n : Nat} {t s g t' s' : Nat → Nat} (ht : Bij n t) (hs : Bij n s) (hg : Bij n g) (et : ∀ x, x < n → t' (g x) = g (t x)) (es : ∀ x, x < n → s' (g x) = g (s x)) {root : Nat} (hr : root < n) {d : Nat} (hd : d < n) :
 name n t' s' (g root) (g d) = name n t s root d := by
 unfold name
 rw [bord_map ht hs hg et es hr, idxOf_map hg _ (bord_lt ht.1 hs.1 hr n) hd]

/-- a permutation renamed by another one -/
def conj (n : Nat) (g f : Nat → Nat) (y : Nat) : Nat := g (f (finv n g y))

theorem conj_at {n : Nat} {g f : Nat → Nat} (hg : Bij n g) {x : Nat} (hx : x < n) : conj n g f (g x) = g (f x) := by
 unfold conj; rw [finv_left hg hx]

theorem conj_bij {n : Nat} {g f : Nat → Nat} (hg : Bij n g) (hf : Bij n f) : Bij n (conj n g f) :=
 have h := comp_bij (finv_bij hg) hf
 comp_bij (g := g) h hg

theorem conj_eq {n : Nat} {g f k : Nat → Nat} (hg : Bij n g) (h : ∀ x, x < n → k (g x) = g (f x)) {y : Nat} (hy : y < n) : conj n g f y = k y := by
 obtain ⟨h1, h2⟩ := finv_spec hg hy
 unfold conj
 rw [← h _ h1, h2]

theorem conn_conj {n : Nat} {t s g t' s' : Nat → Nat} (hg : Bij n g) (et : ∀ x, x < n → t' (g x) = g (t x)) (es : ∀ x, x < n → s' (g x) = g (s x)) (ht : Bij n t) (hs : Bij n s) {i j : Nat} (h : conn n t s i j) : conn n t' s' (g i) (g j) := by
 intro c hc
 exact h (fun x => c (g x)) (fun x hx => by
  have := hc (g x) (hg.1 x hx)
  rw [et x hx, es x hx] at this
  exact this)

/-- the form of a renamed map from the renamed dart is the form of the map -/
theorem form_map {n : Nat} {t s g t' s' : Nat → Nat} (ht : Bij n t) (hs : Bij n s) (hg : Bij n g) (et : ∀ x, x < n → t' (g x) = g (t x)) (es : ∀ x, x < n → s' (g x) = g (s x)) {root : Nat} (hr : root < n) (hc : ∀ x, x < n → conn n t s root x) {f f' : Nat → Nat} (hf : Bij n f) (ef : ∀ x, x < n → f' (g x) = g (f x)) {y : Nat} (hy : y < n) :
 conj n (name n t' s' (g root)) f' y = conj n (name n t s root) f y := by
 have ht' : Bij n t' := bij_congr (conj_bij hg ht) (fun i hi => conj_eq hg et hi)
 have hs' : Bij n s' := bij_congr (conj_bij hg hs) (fun i hi => conj_eq hg es hi)
 have hc' : ∀ x, x < n → conn n t' s' (g root) x := by
  intro x hx
  obtain ⟨z, hz, rfl⟩ := surj hg x hx
  exact conn_conj hg et es ht hs (hc z hz)
 have b := name_bij ht hs hr hc
 have b' := name_bij ht' hs' (hg.1 root hr) hc'
 obtain ⟨x, hx, rfl⟩ := surj b y hy
 rw [conj_at b hx, ← name_map ht hs hg et es hr hx, conj_at b' (hg.1 x hx), ef x hx, name_map ht hs hg et es hr (hf.1 x hx)]

theorem countP_inj {n : Nat} {p q : Nat → Bool} (g : Nat → Nat) (h1 : ∀ x, x < n → p x = true → g x < n ∧ q (g x) = true) (h2 : ∀ x y, x < n → y < n → p x = true → p y = true → g x = g y → x = y) : (List.range n).countP p ≤ (List.range n).countP q := by
 rw [countP_eq_length_filter, countP_eq_length_filter, ← length_map (f := g)]
 apply Nodup.length_le_of_subset
 ·unfold Nodup
  rw [pairwise_map]
  have nd : ((List.range n).filter p).Nodup := nodup_range.filter _
  unfold Nodup at nd
  rw [pairwise_iff_forall_sublist] at nd ⊢
  intro a b hs e
  have ma := hs.subset (show a ∈ [a, b] by simp)
  have mb := hs.subset (show b ∈ [a, b] by simp)
  rw [mem_filter, mem_range] at ma mb
  exact nd hs (h2 a b ma.1 mb.1 ma.2 mb.2 e)
 ·intro y hy
  rw [mem_map] at hy
  obtain ⟨x, hx, rfl⟩ := hy
  rw [mem_filter, mem_range] at hx ⊢
  exact h1 x hx.1 hx.2

def fT (n : Nat) (t s : Nat → Nat) (r : Nat) : Nat → Nat := conj n (name n t s r) t

def fS (n : Nat) (t s : Nat → Nat) (r : Nat) : Nat → Nat := conj n (name n t s r) s

/-- a map that hangs together -/
structure IsMap (n : Nat) (t s : Nat → Nat) : Prop where
 pos : 0 < n
 bt : Bij n t
 bs : Bij n s
 co : ∀ x, x < n → conn n t s 0 x

theorem IsMap.conn {n : Nat} {t s : Nat → Nat} (h : IsMap n t s) {r x : Nat} (hr : r < n) (hx : x < n) : Sm.conn n t s r x := conn_trans (conn_symm (h.co r hr)) (h.co x hx)

theorem IsMap.name {n : Nat} {t s : Nat → Nat} (h : IsMap n t s) {r : Nat} (hr : r < n) : Bij n (Sm.name n t s r) := name_bij h.bt h.bs hr (fun _ hx => h.conn hr hx)

def same (n : Nat) (t s : Nat → Nat) (r r' : Nat) : Prop := ∀ y, y < n → fT n t s r y = fT n t s r' y ∧ fS n t s r y = fS n t s r' y

/-- a renaming that changes nothing -/
structure Aut (n : Nat) (t s g : Nat → Nat) : Prop where
 bij : Bij n g
 et : ∀ x, x < n → t (g x) = g (t x)
 es : ∀ x, x < n → s (g x) = g (s x)

theorem same_of_aut {n : Nat} {t s g : Nat → Nat} (h : IsMap n t s) (a : Aut n t s g) {r : Nat} (hr : r < n) : same n t s (g r) r := by
 intro y hy
 constructor
 ·exact form_map h.bt h.bs a.bij a.et a.es hr (fun _ hx => h.conn hr hx) h.bt a.et hy
 ·exact form_map h.bt h.bs a.bij a.et a.es hr (fun _ hx => h.conn hr hx) h.bs a.es hy

theorem aut_of_same {n : Nat} {t s : Nat → Nat} (h : IsMap n t s) {r r' : Nat} (hr : r < n) (hr' : r' < n) (e : same n t s r r') : ∃ g, Aut n t s g ∧ g r' = r := by
 have b := h.name hr
 have b' := h.name hr'
 refine ⟨fun x => finv n (name n t s r) (name n t s r' x), ⟨comp_bij (g := finv n (name n t s r)) b' (finv_bij b), ?_, ?_⟩, ?_⟩
 ·intro x hx
  have m := b'.1 x hx
  obtain ⟨z1, z2⟩ := finv_spec b m
  have e1 := (e _ m).1
  unfold fT at e1
  rw [conj_at b' hx] at e1
  have e2 := conj_at (f := t) b z1
  rw [z2, e1] at e2
  show t (finv n (name n t s r) (name n t s r' x)) = finv n (name n t s r) (name n t s r' (t x))
  rw [e2, finv_left b (h.bt.1 _ z1)]
 ·intro x hx
  have m := b'.1 x hx
  obtain ⟨z1, z2⟩ := finv_spec b m
  have e1 := (e _ m).2
  unfold fS at e1
  rw [conj_at b' hx] at e1
  have e2 := conj_at (f := s) b z1
  rw [z2, e1] at e2
  show s (finv n (name n t s r) (name n t s r' x)) = finv n (name n t s r) (name n t s r' (s x))
  rw [e2, finv_left b (h.bs.1 _ z1)]
 ·show finv n (name n t s r) (name n t s r' r') = r
  have e1 := name_root n t s r
  rw [name_root, ← e1, finv_left b hr]

theorem aut_unique {n : Nat} {t s g k : Nat → Nat} (h : IsMap n t s) (a : Aut n t s g) (b : Aut n t s k) {x : Nat} (hx : x < n) (e : g x = k x) {y : Nat} (hy : y < n) : g y = k y :=
 conn_closed h.bt h.bs (fun z => g z = k z) (fun z hz e => by rw [← a.et z hz, ← b.et z hz, e]) (fun z hz e => by rw [← a.es z hz, ← b.es z hz, e]) (h.conn hx hy) e

/-- each form is that of as many darts as each other one -/
theorem class_le {n : Nat} {t s : Nat → Nat} (h : IsMap n t s) {a b : Nat} (ha : a < n) (hb : b < n) (p q : Nat → Bool) (hp : ∀ x, x < n → (p x = true ↔ same n t s x a)) (hq : ∀ x, x < n → (q x = true ↔ same n t s x b)) : (List.range n).countP p ≤ (List.range n).countP q := by
 have ex : ∀ r, ∃ g : Nat → Nat, r < n → p r = true → Aut n t s g ∧ g a = r := by
  intro r
  by_cases hr : r < n
  ·by_cases c : p r = true
   ·obtain ⟨g, h1, h2⟩ := aut_of_same h hr ha ((hp r hr).1 c)
    exact ⟨g, fun _ _ => ⟨h1, h2⟩⟩
   ·exact ⟨id, fun _ d => (c d).elim⟩
  ·exact ⟨id, fun d => (hr d).elim⟩
 let G : Nat → Nat → Nat := fun r => Classical.choose (ex r)
 have hG : ∀ r, r < n → p r = true → Aut n t s (G r) ∧ G r a = r := fun r => Classical.choose_spec (ex r)
 refine countP_inj (fun r => G r b) ?_ ?_
 ·intro x hx px
  obtain ⟨h1, _⟩ := hG x hx px
  have lt := h1.bij.1 b hb
  exact ⟨lt, (hq _ lt).2 (same_of_aut h h1 hb)⟩
 ·intro x y hx hy px py e
  obtain ⟨h1, h2⟩ := hG x hx px
  obtain ⟨h3, h4⟩ := hG y hy py
  have := aut_unique h h1 h3 hb e ha
  omega

theorem class_eq {n : Nat} {t s : Nat → Nat} (h : IsMap n t s) {a b : Nat} (ha : a < n) (hb : b < n) (p q : Nat → Bool) (hp : ∀ x, x < n → (p x = true ↔ same n t s x a)) (hq : ∀ x, x < n → (q x = true ↔ same n t s x b)) : (List.range n).countP p = (List.range n).countP q :=
 Nat.le_antisymm (class_le h ha hb p q hp hq) (class_le h hb ha q p hq hp)

/-- the dual map -/
theorem dual_isMap {n : Nat} {t s : Nat → Nat} (h : IsMap n t s) (ss : ∀ x, x < n → s (s x) = x) : IsMap n (fun x => t (s x)) s := by
 refine ⟨h.pos, comp_bij h.bs h.bt, h.bs, fun x hx c hc => ?_⟩
 refine h.co x hx c fun y hy => ⟨?_, (hc y hy).2⟩
 have a := (hc (s y) (h.bs.1 y hy)).1
 rw [ss y hy] at a
 rw [a]; exact (hc y hy).2

def cmp : List Int → List Int → Int
 | [], [] => 0
 | [], _ :: _ => -1
 | _ :: _, [] => 1
 | a :: l, b :: r => if a < b then -1 else if b < a then 1 else cmp l r

theorem cmp_self (l : List Int) : cmp l l = 0 := by
 induction l with
 | nil => rfl
 | cons a l ih => unfold cmp; rw [if_neg (by omega), if_neg (by omega)]; exact ih

theorem cmp_eq : ∀ l r : List Int, cmp l r = 0 → l = r
 | [], [], _ => rfl
 | [], _ :: _, h => by simp [cmp] at h
 | _ :: _, [], h => by simp [cmp] at h
 | a :: l, b :: r, h => by
  unfold cmp at h
  by_cases c : a < b
  ·rw [if_pos c] at h; omega
  ·by_cases d : b < a
   ·rw [if_neg c, if_pos d] at h; omega
   ·rw [if_neg c, if_neg d] at h
    rw [cmp_eq l r h, show a = b by omega]

theorem cmp_anti : ∀ l r : List Int, cmp r l = - cmp l r
 | [], [] => rfl
 | [], _ :: _ => rfl
 | _ :: _, [] => rfl
 | a :: l, b :: r => by
  unfold cmp
  by_cases c : a < b
  ·rw [if_pos c, if_neg (by omega), if_pos c]; rfl
  ·by_cases d : b < a
   ·rw [if_pos d, if_neg c, if_pos d]
   ·rw [if_neg c, if_neg d, if_neg d, if_neg c]; exact cmp_anti l r

theorem cmp_trans : ∀ a b c : List Int, cmp a b < 0 → cmp b c < 0 → cmp a c < 0
 | [], [], _, h, _ => by simp [cmp] at h
 | [], _ :: _, [], _, h => by simp [cmp] at h
 | [], _ :: _, _ :: _, _, _ => by simp [cmp]
 | _ :: _, [], _, h, _ => by simp [cmp] at h
 | _ :: _, _ :: _, [], _, h => by simp [cmp] at h
 | x :: a, y :: b, z :: c, h1, h2 => by
  unfold cmp at h1 h2 ⊢
  by_cases c1 : x < y
  ·by_cases c2 : y < z
   ·rw [if_pos (by omega)]; omega
   ·by_cases c3 : z < y
    ·rw [if_neg c2, if_pos c3] at h2; omega
    ·rw [if_pos (by omega)]; omega
  ·by_cases c4 : y < x
   ·rw [if_neg c1, if_pos c4] at h1; omega
   ·rw [if_neg c1, if_neg c4] at h1
    by_cases c2 : y < z
    ·rw [if_pos (by omega)]; omega
    ·by_cases c3 : z < y
     ·rw [if_neg c2, if_pos c3] at h2; omega
     ·rw [if_neg c2, if_neg c3] at h2
      rw [if_neg (by omega), if_neg (by omega)]
      exact cmp_trans a b c h1 h2

/-- two pairs of lists: by the first ones, then by the second ones -/
def cmp2 (a b : List Int × List Int) : Int := if cmp a.1 b.1 = 0 then cmp a.2 b.2 else cmp a.1 b.1

theorem cmp2_self (a : List Int × List Int) : cmp2 a a = 0 := by unfold cmp2; rw [if_pos (cmp_self _)]; exact cmp_self _

theorem cmp2_eq {a b : List Int × List Int} : cmp2 a b = 0 ↔ a = b := by
 constructor
 ·intro h
  unfold cmp2 at h
  by_cases c : cmp a.1 b.1 = 0
  ·rw [if_pos c] at h
   exact Prod.ext (cmp_eq _ _ c) (cmp_eq _ _ h)
  ·rw [if_neg c] at h; exact (c h).elim
 ·rintro rfl; exact cmp2_self a

theorem cmp2_anti (a b : List Int × List Int) : cmp2 b a = - cmp2 a b := by
 unfold cmp2
 rw [cmp_anti a.1 b.1, cmp_anti a.2 b.2]
 by_cases c : cmp a.1 b.1 = 0
 ·rw [if_pos (by omega), if_pos c]
 ·rw [if_neg (by omega), if_neg c]

theorem cmp2_trans {a b c : List Int × List Int} (h1 : cmp2 a b < 0) (h2 : cmp2 b c < 0) : cmp2 a c < 0 := by
 unfold cmp2 at *
 by_cases d1 : cmp a.1 b.1 = 0
 ·rw [if_pos d1] at h1
  have e1 := cmp_eq _ _ d1
  by_cases d2 : cmp b.1 c.1 = 0
  ·rw [if_pos d2] at h2
   rw [e1, if_pos d2]; exact cmp_trans _ _ _ h1 h2
  ·rw [if_neg d2] at h2
   rw [e1, if_neg d2]; exact h2
 ·rw [if_neg d1] at h1
  by_cases d2 : cmp b.1 c.1 = 0
  ·rw [if_pos d2] at h2
   rw [← cmp_eq _ _ d2, if_neg d1]; exact h1
  ·rw [if_neg d2] at h2
   have := cmp_trans _ _ _ h1 h2
   rw [if_neg (by omega)]; exact this

theorem cmp2_le_trans {a b c : List Int × List Int} (h1 : cmp2 a b ≤ 0) (h2 : cmp2 b c ≤ 0) : cmp2 a c ≤ 0 := by
 by_cases e1 : cmp2 a b = 0
 ·rw [cmp2_eq.1 e1]; exact h2
 ·by_cases e2 : cmp2 b c = 0
  ·rw [← cmp2_eq.1 e2]; exact h1
  ·have := cmp2_trans (a := a) (b := b) (c := c) (by omega) (by omega)
   omega

/-- the least among F 0, .., F (n-1) -/
structure IsLeast (n : Nat) (F : Nat → List Int × List Int) (b : List Int × List Int) : Prop where
 has : ∃ r, r < n ∧ F r = b
 le : ∀ r, r < n → cmp2 b (F r) ≤ 0

theorem IsLeast.unique {n n' : Nat} {F F' : Nat → List Int × List Int} {b b' : List Int × List Int} (h : IsLeast n F b) (h' : IsLeast n' F' b')
 (e : ∀ r, r < n → ∃ r', r' < n' ∧ F' r' = F r) (e' : ∀ r, r < n' → ∃ r', r' < n ∧ F r' = F' r) : b = b' := by
 obtain ⟨r, hr, rfl⟩ := h.has
 obtain ⟨r', hr', rfl⟩ := h'.has
 obtain ⟨q, hq, eq⟩ := e r hr
 obtain ⟨q', hq', eq'⟩ := e' r' hr'
 have a1 := h.le q' hq'
 have a2 := h'.le q hq
 rw [eq'] at a1
 rw [eq] at a2
 have := cmp2_anti (F r) (F' r')
 exact cmp2_eq.1 (by omega)

/-- the form of a map from a dart, as two lists -/
def form (n : Nat) (t s : Nat → Nat) (r : Nat) : List Int × List Int := (pm n (fT n t s r), pm n (fS n t s r))

theorem form_same {n : Nat} {t s : Nat → Nat} {r r' : Nat} : form n t s r = form n t s r' ↔ same n t s r r' := by
 unfold form same
 rw [Prod.mk.injEq, pm_ext, pm_ext]
 exact ⟨fun h y hy => ⟨h.1 y hy, h.2 y hy⟩, fun h => ⟨fun y hy => (h y hy).1, fun y hy => (h y hy).2⟩⟩

/-- a renaming from one map to another one -/
structure Iso (n : Nat) (t s t' s' g : Nat → Nat) : Prop where
 bij : Bij n g
 et : ∀ x, x < n → t' (g x) = g (t x)
 es : ∀ x, x < n → s' (g x) = g (s x)

theorem Iso.form {n : Nat} {t s t' s' g : Nat → Nat} (i : Iso n t s t' s' g) (h : IsMap n t s) {r : Nat} (hr : r < n) : Sm.form n t' s' (g r) = Sm.form n t s r := by
 unfold Sm.form
 rw [Prod.mk.injEq, pm_ext, pm_ext]
 exact ⟨fun y hy => form_map h.bt h.bs i.bij i.et i.es hr (fun _ hx => h.conn hr hx) h.bt i.et hy, fun y hy => form_map h.bt h.bs i.bij i.et i.es hr (fun _ hx => h.conn hr hx) h.bs i.es hy⟩

theorem Iso.isMap {n : Nat} {t s t' s' g : Nat → Nat} (i : Iso n t s t' s' g) (h : IsMap n t s) : IsMap n t' s' := by
 have ht' : Bij n t' := bij_congr (conj_bij i.bij h.bt) (fun _ hi => conj_eq i.bij i.et hi)
 have hs' : Bij n s' := bij_congr (conj_bij i.bij h.bs) (fun _ hi => conj_eq i.bij i.es hi)
 have all : ∀ x y, x < n → y < n → Sm.conn n t' s' x y := by
  intro x y hx hy
  obtain ⟨a, ha, rfl⟩ := surj i.bij x hx
  obtain ⟨b, hb, rfl⟩ := surj i.bij y hy
  exact conn_conj i.bij i.et i.es h.bt h.bs (h.conn ha hb)
 exact ⟨h.pos, ht', hs', fun x hx => all 0 x h.pos hx⟩

theorem Iso.conj {n : Nat} {t s g : Nat → Nat} (hg : Bij n g) : Iso n t s (Sm.conj n g t) (Sm.conj n g s) g :=
 ⟨hg, fun _ hx => conj_at hg hx, fun _ hx => conj_at hg hx⟩

theorem Iso.least {n : Nat} {t s t' s' g : Nat → Nat} (i : Iso n t s t' s' g) (h : IsMap n t s) {b b' : List Int × List Int} (hb : IsLeast n (Sm.form n t s) b) (hb' : IsLeast n (Sm.form n t' s') b') : b = b' := by
 refine hb.unique hb' (fun r hr => ⟨g r, i.bij.1 r hr, i.form h hr⟩) (fun r hr => ?_)
 obtain ⟨a, ha, rfl⟩ := surj i.bij r hr
 exact ⟨a, ha, (i.form h ha).symm⟩
end Go.Proofs.Ytmjdmahgkidocaa.Sm
namespace Go.Proofs.Ytmjdmahgkidocaa.R
open Go.RowKit Go.Proofs.YtmjdmahgkidocaaW.PrintWords Go.Proofs.YtmjdmahgkidocaaW.PrintLast Go.Proofs.YtmjdmahgkidocaaW.PrintMore Go.Proofs.Ytmjdmahgkidocaa.F Go.Proofs.Ytmjdmahgkidocaa.Sm
theorem Ev.pos {α : Type} {c : Prop} [Decidable c] {A B : Nat → Option α} {r : α} (h : c) (k : Ev A r) : Ev (fun n => if c then A n else B n) r := by
 simp only [if_pos h]; exact k

theorem Ev.neg {α : Type} {c : Prop} [Decidable c] {A B : Nat → Option α} {r : α} (h : ¬ c) (k : Ev B r) : Ev (fun n => if c then A n else B n) r := by
 simp only [if_neg h]; exact k

theorem Ev.bind1 {α β : Type} {g : Nat → Option α} {f : Nat → α → Option β} {a : α} {r : β} (h : Ev g a) (k : Ev (fun n => f n a) r) : Ev (fun n => (g n).bind (f n)) r := Ev.bind h k

theorem Ev.some1 {α β : Type} {f : Nat → α → Option β} {a : α} {r : β} (k : Ev (fun n => f n a) r) : Ev (fun n => (some a).bind (f n)) r := k

theorem wrap_nat {i : Nat} (h : i < 9223372036854775807) : wrap64 ((i : Int) + 1) = ((i + 1 : Nat) : Int) := by unfold wrap64; omega

theorem wrap_in {n : Int} (h1 : -9223372036854775808 ≤ n) (h2 : n ≤ 9223372036854775807) : wrap64 n = n := by unfold wrap64; omega

theorem rd_get {l : List Int} {i : Nat} (h : i < l.length) : rd l (i : Int) = l[i] := by
 unfold rd; simp [h]

theorem rd_pm {n : Nat} {f : Nat → Nat} {i : Nat} (h : i < n) : rd (pm n f) (i : Int) = (f i : Int) := by
 unfold rd; exact pm_getD n f i h

/-- a list that is a permutation -/
def IsPerm (n : Nat) (l : List Int) (f : Nat → Nat) : Prop := 1 ≤ n ∧ n ≤ 12 ∧ Bij n f ∧ l = pm n f

theorem valid_iff (l : List Int) : impl_PermValid.validB l = true ↔ ∃ f, IsPerm l.length l f := by
 unfold impl_PermValid.validB
 simp only [Bool.and_eq_true, decide_eq_true_eq, List.all_eq_true, List.mem_range]
 constructor
 ·rintro ⟨⟨h1, h2⟩, h3⟩
  have h3' : ∀ i, i < l.length → 0 ≤ rd l i ∧ rd l i < l.length ∧ ∀ j, j < i → rd l j ≠ rd l i := by
   intro i hi
   have := h3 i hi
   unfold impl_PermValid.okAt at this
   simp only [Bool.and_eq_true, decide_eq_true_eq, Bool.not_eq_true', List.contains_eq_mem, decide_eq_false_iff_not] at this
   refine ⟨this.1.1, this.1.2, fun j hj e => this.2 ?_⟩
   rw [← e, rd_get (show j < l.length by omega)]
   rw [List.mem_iff_getElem]
   exact ⟨j, by simp; omega, by simp⟩
  refine ⟨fun i => (rd l i).toNat, h1, h2, ⟨fun i hi => by have := h3' i hi; show (rd l i).toNat < _; omega, fun i j hi hj e => ?_⟩, ?_⟩
  ·have a := h3' i hi
   have b := h3' j hj
   have e' : (rd l i).toNat = (rd l j).toNat := e
   rcases Nat.lt_trichotomy i j with c | c | c
   ·exact (b.2.2 i c (by omega)).elim
   ·exact c
   ·exact (a.2.2 j c (by omega)).elim
  ·refine eq_pm _ _ _ rfl fun i hi => ?_
   have := h3' i hi
   show l.getD i 0 = (((rd l i).toNat : Nat) : Int)
   have e : l.getD i 0 = rd l i := rfl
   omega
 ·rintro ⟨f, h1, h2, hf, e⟩
  refine ⟨⟨h1, h2⟩, fun i hi => ?_⟩
  have r : ∀ j, j < l.length → rd l j = (f j : Int) := fun j hj => by
   have := rd_pm (n := l.length) (f := f) hj
   rwa [← e] at this
  unfold impl_PermValid.okAt
  simp only [Bool.and_eq_true, decide_eq_true_eq, Bool.not_eq_true', List.contains_eq_mem, decide_eq_false_iff_not]
  refine ⟨⟨by rw [r i hi]; omega, by rw [r i hi]; have := hf.1 i hi; omega⟩, fun hm => ?_⟩
  rw [List.mem_iff_getElem] at hm
  obtain ⟨j, hj, ej⟩ := hm
  have hj' : j < i := by simp at hj; omega
  have : l[j]'(by omega) = rd l i := by simpa using ej
  rw [← rd_get (show j < l.length by omega), r i hi, r j (by omega)] at this
  have := hf.2 j i (by omega) hi (by omega)
  omega

theorem implValid_ev (l : List Int) : Ev (fun _ => impl_PermValid.f l) (impl_PermValid.validB l) := Ev.now _

/-- the reference's look: up to i all is well -/
theorem specValid_ev (l : List Int) (hl : l.length ≤ 4294967296) : Ev (fun k => spec_PermValid.f k l) (impl_PermValid.validB l) := by
 have e0 : ∀ (a b c : Int), spec_l6In.f a b c = some (decide (b ≤ a) && decide (a ≤ c)) := by
  intro a b c
  unfold spec_l6In.f
  by_cases h : b ≤ a
  ·rw [if_pos h]; simp [h]
  ·rw [if_neg h]; simp [h]
 -- the inner loop
 have inner : ∀ d i j, i < l.length → j + d = i → (∀ m, m < j → rd l m ≠ rd l i) → ∀ r, ((∀ m, m < i → rd l m ≠ rd l i) → Ev (fun k => spec_PermValid.l0 k l ((i + 1 : Nat) : Int)) r) → ((∃ m, m < i ∧ rd l m = rd l i) → r = false) → Ev (fun k => spec_PermValid.l1 k l (i : Int) (j : Int)) r := by
  intro d
  induction d with
  | zero =>
   intro i j hi hj hm r h1 h2
   refine Ev.step (f := fun k => spec_PermValid.l0 k l ((i + 1 : Nat) : Int)) (fun k => by rw [spec_PermValid.l1, if_neg (by omega), wrap_nat (by omega)]) ?_
   exact h1 (fun m hmi => hm m (by omega))
  | succ d ih =>
   intro i j hi hj hm r h1 h2
   by_cases c : rd l (j : Int) = rd l (i : Int)
   ·have := h2 ⟨j, by omega, c⟩
    subst this
    refine Ev.step (f := fun k => some false) (fun k => by
     rw [spec_PermValid.l1, if_pos (by omega), if_pos (by omega), if_pos (by omega), if_pos (by omega), if_pos (by omega), if_pos c]) (Ev.now _)
   ·refine Ev.step (f := fun k => spec_PermValid.l1 k l (i : Int) ((j + 1 : Nat) : Int)) (fun k => by
     rw [spec_PermValid.l1, if_pos (by omega), if_pos (by omega), if_pos (by omega), if_pos (by omega), if_pos (by omega), if_neg c, wrap_nat (by omega)]) ?_
    refine ih i (j + 1) hi (by omega) (fun m hm' => ?_) r h1 h2
    by_cases e : m = j
    ·subst e; exact c
    ·exact hm m (by omega)
 have outer : ∀ d i, i + d = l.length → (∀ m, m < i → impl_PermValid.okAt l m = true) → Ev (fun k => spec_PermValid.l0 k l (i : Int)) (impl_PermValid.validB l) := by
  intro d
  induction d with
  | zero =>
   intro i hi hm
   have e : impl_PermValid.validB l = (decide ((1 : Int) ≤ (l.length : Int)) && decide ((l.length : Int) ≤ 12)) := by
    unfold impl_PermValid.validB
    have : (List.range l.length).all (impl_PermValid.okAt l) = true := by
     rw [List.all_eq_true]; intro m hm'; exact hm m (by have := List.mem_range.1 hm'; omega)
    rw [this]
    rw [Bool.and_true]
    congr 1
    ·simp; omega
    ·simp; omega
   refine Ev.step (f := fun _ => some (impl_PermValid.validB l)) (fun k => by rw [spec_PermValid.l0, if_neg (by omega), e0, e]; rfl) (Ev.now _)
  | succ d ih =>
   intro i hi hm
   have hil : i < l.length := by omega
   have fail : impl_PermValid.okAt l i = false → impl_PermValid.validB l = false := impl_PermValid.valid_fail l i hil
   have ew : wrap64 ((l.length : Int) - 1) = (l.length : Int) - 1 := wrap_in (by omega) (by omega)
   by_cases c : 0 ≤ rd l (i : Int) ∧ rd l (i : Int) ≤ (l.length : Int) - 1
   ·refine Ev.step (f := fun k => spec_PermValid.l1 k l (i : Int) ((0 : Nat) : Int)) (fun k => by
     rw [spec_PermValid.l0, if_pos (by omega), if_pos (by omega), e0, ew]
     simp only [Option.bind_some]
     rw [if_pos (by simp [c.1, c.2])]; rfl) ?_
    refine inner i i 0 hil (by omega) (fun m hm' => absurd hm' (by omega)) _ (fun hd => ?_) (fun hd => ?_)
    ·refine ih (i + 1) (by omega) (fun m hm' => ?_)
     by_cases e : m = i
     ·subst e
      unfold impl_PermValid.okAt
      simp only [Bool.and_eq_true, decide_eq_true_eq, Bool.not_eq_true', List.contains_eq_mem, decide_eq_false_iff_not]
      refine ⟨⟨c.1, by omega⟩, fun hx => ?_⟩
      rw [List.mem_iff_getElem] at hx
      obtain ⟨j, hj, ej⟩ := hx
      have hj' : j < m := by simp at hj; omega
      have : l[j]'(by omega) = rd l m := by simpa using ej
      rw [← rd_get (show j < l.length by omega)] at this
      exact hd j hj' this
     ·exact hm m (by omega)
    ·obtain ⟨m, hmi, em⟩ := hd
     apply fail
     unfold impl_PermValid.okAt
     have : (l.take i).contains (rd l i) = true := by
      rw [List.contains_eq_mem, decide_eq_true_eq, ← em, rd_get (show m < l.length by omega), List.mem_iff_getElem]
      exact ⟨m, by simp; omega, by simp⟩
     simp only [this, Bool.not_true, Bool.and_false]
   ·have : impl_PermValid.validB l = false := by
     apply fail
     unfold impl_PermValid.okAt
     by_cases c1 : 0 ≤ rd l (i : Int)
     ·have : ¬ rd l (i : Int) < l.length := by omega
      simp [this]
     ·simp [c1]
    rw [this]
    refine Ev.step (f := fun k => some false) (fun k => by
     rw [spec_PermValid.l0, if_pos (by omega), if_pos (by omega), e0, ew]
     simp only [Option.bind_some]
     rw [if_neg]
     simp only [Bool.and_eq_true, decide_eq_true_eq]
     exact c) (Ev.now _)
 unfold spec_PermValid.f
 exact outer l.length 0 (by omega) (fun m hm => absurd hm (by omega))

theorem rd_set {s : List Int} {a b : Nat} {v : Int} (h : a < s.length) : rd (s.set a v) (b : Int) = if a = b then v else rd s (b : Int) := by
 unfold rd
 simp only [Int.toNat_natCast, List.getD_eq_getElem?_getD, List.getElem?_set]
 by_cases e : a = b
 ·subst e; simp [h]
 ·simp [e]

theorem eq_pm' {n : Nat} {f : Nat → Nat} {l : List Int} (hl : l.length = n) (h : ∀ i, i < n → rd l (i : Int) = (f i : Int)) : l = pm n f :=
 eq_pm n f l hl fun i hi => by have := h i hi; unfold rd at this; simpa using this

theorem sameInts_loop (a b : List Int) (hl : a.length = b.length) (hb : a.length ≤ 4294967296) : ∀ d i, i + d = a.length → Ev (fun k => laws_sameInts.l0 k a b (i : Int)) (decide (a.drop i = b.drop i)) := by
 intro d
 induction d with
 | zero =>
  intro i hi
  refine Ev.step (f := fun _ => some true) (fun k => by rw [laws_sameInts.l0, if_neg (by omega)]) ?_
  rw [List.drop_of_length_le (by omega), List.drop_of_length_le (by omega)]
  exact Ev.now _
 | succ d ih =>
  intro i hi
  have ha : i < a.length := by omega
  have hb' : i < b.length := by omega
  rw [List.drop_eq_getElem_cons ha, List.drop_eq_getElem_cons hb']
  by_cases c : a[i] = b[i]
  ·refine Ev.step (f := fun k => laws_sameInts.l0 k a b ((i + 1 : Nat) : Int)) (fun k => by
    rw [laws_sameInts.l0, if_pos (by omega), if_pos (by omega), if_pos (by omega), rd_get ha, rd_get hb', if_pos c, wrap_nat (by omega)]) ?_
   have e : decide (a[i] :: a.drop (i + 1) = b[i] :: b.drop (i + 1)) = decide (a.drop (i + 1) = b.drop (i + 1)) := by
    simp only [List.cons.injEq, c, true_and]
   rw [e]
   exact ih (i + 1) (by omega)
  ·refine Ev.step (f := fun k => some false) (fun k => by
    rw [laws_sameInts.l0, if_pos (by omega), if_pos (by omega), if_pos (by omega), rd_get ha, rd_get hb', if_neg c]) ?_
   have : decide (a[i] :: a.drop (i + 1) = b[i] :: b.drop (i + 1)) = false := by
    simp only [List.cons.injEq, c, false_and, decide_false]
   rw [this]
   exact Ev.now _

theorem sameInts_ev {a b : List Int} (hb : a.length ≤ 4294967296) : Ev (fun k => laws_sameInts.f k a b) (decide (a = b)) := by
 unfold laws_sameInts.f
 by_cases c : a.length = b.length
 ·refine Ev.pos (by omega) ?_
  exact sameInts_loop a b c hb a.length 0 (by omega)
 ·have : decide (a = b) = false := by simp; intro e; exact c (by rw [e])
  rw [this]
  exact Ev.neg (by omega) (Ev.now _)

theorem still_ev {n : Nat} (hn : n ≤ 1000) : Ev (fun k => impl_still.f k (n : Int)) (pm n fun i => i) := by
 have loop : ∀ d i (s : List Int), i + d = n → s.length = n → (∀ j, j < i → rd s (j : Int) = (j : Int)) → Ev (fun k => impl_still.l0 k s (n : Int) (i : Int)) (pm n fun i => i) := by
  intro d
  induction d with
  | zero =>
   intro i s hi hs h
   refine Ev.step (f := fun _ => some s) (fun k => by rw [impl_still.l0, if_neg (by omega)]) ?_
   rw [eq_pm' (f := fun i => i) hs (fun j hj => h j (by omega))]
   exact Ev.now _
  | succ d ih =>
   intro i s hi hs h
   refine Ev.step (f := fun k => impl_still.l0 k (s.set i (i : Int)) (n : Int) ((i + 1 : Nat) : Int)) (fun k => by
    rw [impl_still.l0, if_pos (by omega), if_pos (by omega), if_pos (by omega), wrap_nat (by omega)]; rfl) ?_
   refine ih (i + 1) _ (by omega) (by simp [hs]) (fun j hj => ?_)
   rw [rd_set (by omega)]
   by_cases e : i = j
   ·rw [if_pos e, e]
   ·rw [if_neg e]; exact h j (by omega)
 unfold impl_still.f
 refine Ev.pos (by omega) (Ev.pos (by omega) ?_)
 have := loop n 0 (List.replicate n 0) (by omega) (by simp) (fun j hj => absurd hj (by omega))
 simpa using this

theorem l1Same_ev {n : Nat} (hn : n ≤ 1000) : Ev (fun k => spec_l1Same.f k (n : Int)) (pm n fun i => i) := by
 have loop : ∀ d i, i + d = n → Ev (fun k => spec_l1Same.l0 k (n : Int) (pm i fun i => i) (i : Int)) (pm n fun i => i) := by
  intro d
  induction d with
  | zero =>
   intro i hi
   have e : i = n := by omega
   subst e
   exact Ev.step (f := fun _ => some (pm i fun i => i)) (fun k => by rw [spec_l1Same.l0, if_neg (by omega)]) (Ev.now _)
  | succ d ih =>
   intro i hi
   refine Ev.step (f := fun k => spec_l1Same.l0 k (n : Int) (pm (i + 1) fun i => i) ((i + 1 : Nat) : Int)) (fun k => by
    rw [spec_l1Same.l0, if_pos (by omega), if_pos (by rw [pm_length]; omega), wrap_nat (by omega)]
    simp [pm, List.range_succ]) (ih (i + 1) (by omega))
 unfold spec_l1Same.f
 exact loop n 0 (by omega)

theorem mul_ev {n : Nat} {f g : Nat → Nat} (hn : n ≤ 1000) (hf : ∀ i, i < n → f i < n) : Ev (fun k => impl_mul.f k (pm n f) (pm n g)) (pm n fun i => g (f i)) := by
 have loop : ∀ d i (s : List Int), i + d = n → s.length = n → (∀ j, j < i → rd s (j : Int) = (g (f j) : Int)) → Ev (fun k => impl_mul.l0 k (pm n g) s (pm n f) (n : Int) (i : Int)) (pm n fun i => g (f i)) := by
  intro d
  induction d with
  | zero =>
   intro i s hi hs h
   refine Ev.step (f := fun _ => some s) (fun k => by rw [impl_mul.l0, if_neg (by omega)]) ?_
   rw [eq_pm' (f := fun i => g (f i)) hs (fun j hj => h j (by omega))]
   exact Ev.now _
  | succ d ih =>
   intro i s hi hs h
   have hfi := hf i (by omega)
   refine Ev.step (f := fun k => impl_mul.l0 k (pm n g) (s.set i (g (f i) : Int)) (pm n f) (n : Int) ((i + 1 : Nat) : Int)) (fun k => by
    rw [impl_mul.l0, if_pos (by omega), if_pos (by omega), if_pos (by rw [pm_length]; omega), rd_pm (by omega), if_pos (by omega), if_pos (by rw [pm_length]; omega), if_pos (by omega), wrap_nat (by omega), rd_pm hfi]; rfl) ?_
   refine ih (i + 1) _ (by omega) (by simp [hs]) (fun j hj => ?_)
   rw [rd_set (by omega)]
   by_cases e : i = j
   ·rw [if_pos e, e]
   ·rw [if_neg e]; exact h j (by omega)
 unfold impl_mul.f
 simp only [pm_length]
 refine Ev.pos (by omega) (Ev.pos (by omega) ?_)
 have := loop n 0 (List.replicate n 0) (by omega) (by simp) (fun j hj => absurd hj (by omega))
 simpa using this

theorem l1Mul_ev {n : Nat} {f g : Nat → Nat} (hn : n ≤ 1000) (hf : ∀ i, i < n → f i < n) : Ev (fun k => spec_l1Mul.f k (pm n f) (pm n g)) (pm n fun i => g (f i)) := by
 have loop : ∀ d i, i + d = n → Ev (fun k => spec_l1Mul.l0 k (pm n f) (pm n g) (pm i fun i => g (f i)) (i : Int)) (pm n fun i => g (f i)) := by
  intro d
  induction d with
  | zero =>
   intro i hi
   have e : i = n := by omega
   subst e
   exact Ev.step (f := fun _ => some (pm i fun i => g (f i))) (fun k => by rw [spec_l1Mul.l0, if_neg (by rw [pm_length]; omega)]) (Ev.now _)
  | succ d ih =>
   intro i hi
   have hfi := hf i (by omega)
   refine Ev.step (f := fun k => spec_l1Mul.l0 k (pm n f) (pm n g) (pm (i + 1) fun i => g (f i)) ((i + 1 : Nat) : Int)) (fun k => by
    rw [spec_l1Mul.l0, if_pos (by rw [pm_length]; omega), if_pos (by omega), rd_pm (by omega), if_pos (by omega), if_pos (by rw [pm_length]; omega), if_pos (by rw [pm_length]; omega), wrap_nat (by omega), rd_pm hfi]
    simp [pm, List.range_succ]) (ih (i + 1) (by omega))
 unfold spec_l1Mul.f
 exact loop n 0 (by omega)

theorem back_end {n : Nat} {f : Nat → Nat} (hf : Bij n f) {s : List Int} (hs : s.length = n) (h : ∀ j, j < n → rd s (f j : Int) = (j : Int)) : s = pm n (finv n f) := by
 refine eq_pm' hs fun y hy => ?_
 obtain ⟨h1, h2⟩ := finv_spec hf hy
 have := h _ h1
 rwa [h2] at this

theorem back_step {n : Nat} {f : Nat → Nat} (hf : Bij n f) {s : List Int} (hs : s.length = n) {i : Nat} (hi : i < n) (h : ∀ j, j < i → rd s (f j : Int) = (j : Int)) : ∀ j, j < i + 1 → rd (s.set (f i) (i : Int)) (f j : Int) = (j : Int) := by
 intro j hj
 rw [rd_set (by have := hf.1 i hi; omega)]
 by_cases e : i = j
 ·subst e; rw [if_pos rfl]
 ·rw [if_neg (fun d => e (hf.2 i j hi (by omega) d))]; exact h j (by omega)

theorem back_ev {n : Nat} {f : Nat → Nat} (hn : n ≤ 1000) (hf : Bij n f) : Ev (fun k => impl_back.f k (pm n f)) (pm n (finv n f)) := by
 have loop : ∀ d i (s : List Int), i + d = n → s.length = n → (∀ j, j < i → rd s (f j : Int) = (j : Int)) → Ev (fun k => impl_back.l0 k s (pm n f) (n : Int) (i : Int)) (pm n (finv n f)) := by
  intro d
  induction d with
  | zero =>
   intro i s hi hs h
   refine Ev.step (f := fun _ => some s) (fun k => by rw [impl_back.l0, if_neg (by omega)]) ?_
   rw [back_end hf hs (fun j hj => h j (by omega))]
   exact Ev.now _
  | succ d ih =>
   intro i s hi hs h
   have hfi := hf.1 i (by omega)
   refine Ev.step (f := fun k => impl_back.l0 k (s.set (f i) (i : Int)) (pm n f) (n : Int) ((i + 1 : Nat) : Int)) (fun k => by
    rw [impl_back.l0, if_pos (by omega), if_pos (by omega), if_pos (by rw [pm_length]; omega), rd_pm (by omega), if_pos (by omega), if_pos (by omega), wrap_nat (by omega)]; rfl) ?_
   exact ih (i + 1) _ (by omega) (by simp [hs]) (back_step hf hs (by omega) h)
 unfold impl_back.f
 simp only [pm_length]
 refine Ev.pos (by omega) (Ev.pos (by omega) ?_)
 have := loop n 0 (List.replicate n 0) (by omega) (by simp) (fun j hj => absurd hj (by omega))
 simpa using this

/-- two lists that are permutations of as many points -/
def both (a b : List Int) : Bool := impl_PermValid.validB a && impl_PermValid.validB b && decide (a.length = b.length)

theorem both_iff (a b : List Int) : both a b = true ↔ ∃ n f g, IsPerm n a f ∧ IsPerm n b g := by
 unfold both
 simp only [Bool.and_eq_true, decide_eq_true_eq, valid_iff]
 constructor
 ·rintro ⟨⟨⟨f, hf⟩, g, hg⟩, e⟩
  rw [← e] at hg
  exact ⟨_, f, g, hf, hg⟩
 ·rintro ⟨n, f, g, hf, hg⟩
  have e1 : a.length = n := by rw [hf.2.2.2, pm_length]
  have e2 : b.length = n := by rw [hg.2.2.2, pm_length]
  rw [e1, e2]
  exact ⟨⟨⟨f, hf⟩, g, hg⟩, rfl⟩

theorem l1Both_ev {a b : List Int} (ha : a.length ≤ 4294967296) (hb : b.length ≤ 4294967296) : Ev (fun k => spec_l1Both.f k a b) (both a b) := by
 unfold spec_l1Both.f both
 refine Ev.bind1 (specValid_ev a ha) ?_
 cases c : impl_PermValid.validB a with
 | false => exact Ev.neg (by simp) (Ev.now _)
 | true =>
  refine Ev.pos rfl (Ev.bind1 (specValid_ev b hb) ?_)
  cases d : impl_PermValid.validB b with
  | false => exact Ev.neg (by simp) (Ev.now _)
  | true =>
   refine Ev.pos rfl ?_
   have : ((a.length : Int) == (b.length : Int)) = (true && true && decide (a.length = b.length)) := by
    by_cases e : a.length = b.length
    ·simp [e]
    ·have : ¬ (a.length : Int) = (b.length : Int) := by omega
     simp [e, this]
   rw [this]
   exact Ev.now _

def ints (l : List Nat) : List Int := l.map fun (x : Nat) => (x : Int)

def cycsTo (n : Nat) (f : Nat → Nat) (i : Nat) : List (List Int) := ((List.range i).filter (isMin n f)).map fun m => ints (cyc n f m)

/-- all cycles, as lists of numbers -/
def cycsL (n : Nat) (f : Nat → Nat) : List (List Int) := cycsTo n f n

theorem cycsL_length (n : Nat) (f : Nat → Nat) : (cycsL n f).length = cc n f := by simp [cycsL, cycsTo, cc]

theorem cycsTo_len (n : Nat) (f : Nat → Nat) (i : Nat) : (cycsTo n f i).length ≤ i := by
 unfold cycsTo
 rw [List.length_map]
 have := List.length_filter_le (isMin n f) (List.range i)
 simpa using this

def seenTo (n : Nat) (f : Nat → Nat) (i : Nat) (s : List Bool) : Prop := s.length = n ∧ ∀ x, x < n → (rdOf false s (x : Int) = true ↔ ∃ j, j < i ∧ orb f j x)

def seenIn (n : Nat) (f : Nat → Nat) (i k : Nat) (s : List Bool) : Prop := s.length = n ∧ ∀ x, x < n → (rdOf false s (x : Int) = true ↔ (∃ j, j < i ∧ orb f j x) ∨ ∃ m, m < k ∧ it f m i = x)

theorem rdOf_set {s : List Bool} {a b : Nat} {v : Bool} (h : a < s.length) : rdOf false (s.set a v) (b : Int) = if a = b then v else rdOf false s (b : Int) := by
 unfold rdOf
 simp only [Int.toNat_natCast, List.getD_eq_getElem?_getD, List.getElem?_set]
 by_cases e : a = b
 ·subst e; simp [h]
 ·simp [e]

theorem seen_start (n : Nat) (f : Nat → Nat) : seenTo n f 0 (List.replicate n false) := by
 refine ⟨by simp, fun x hx => ?_⟩
 unfold rdOf
 constructor
 ·intro h; simp [List.getD_eq_getElem?_getD, hx] at h
 ·rintro ⟨j, hj, _⟩; omega

theorem seen_in {n : Nat} {f : Nat → Nat} {i : Nat} {s : List Bool} (h : seenTo n f i s) : seenIn n f i 0 s :=
 ⟨h.1, fun x hx => by rw [h.2 x hx]; exact ⟨.inl, fun e => e.elim id (fun ⟨m, hm, _⟩ => absurd hm (by omega))⟩⟩

theorem seen_step {n : Nat} {f : Nat → Nat} (hf : Bij n f) {i k : Nat} (hi : i < n) {s : List Bool} (h : seenIn n f i k s) : seenIn n f i (k + 1) (s.set (it f k i) true) := by
 have hk := it_lt hf k hi
 refine ⟨by simp [h.1], fun x hx => ?_⟩
 rw [rdOf_set (by rw [h.1]; exact hk)]
 by_cases e : it f k i = x
 ·rw [if_pos e]
  exact ⟨fun _ => .inr ⟨k, by omega, e⟩, fun _ => rfl⟩
 ·rw [if_neg e, h.2 x hx]
  constructor
  ·rintro (a | ⟨m, hm, b⟩)
   ·exact .inl a
   ·exact .inr ⟨m, by omega, b⟩
  ·rintro (a | ⟨m, hm, b⟩)
   ·exact .inl a
   ·refine .inr ⟨m, ?_, b⟩
    apply Nat.lt_of_le_of_ne (by omega)
    intro d; subst d; exact e b

theorem seen_end {n : Nat} {f : Nat → Nat} (hf : Bij n f) {i : Nat} (hi : i < n) {s : List Bool} (h : seenIn n f i (per n f i) s) : seenTo n f (i + 1) s := by
 refine ⟨h.1, fun x hx => ?_⟩
 rw [h.2 x hx]
 constructor
 ·rintro (⟨j, hj, o⟩ | ⟨m, hm, e⟩)
  ·exact ⟨j, by omega, o⟩
  ·exact ⟨i, by omega, m, e⟩
 ·rintro ⟨j, hj, o⟩
  by_cases e : j = i
  ·subst e
   obtain ⟨m, em⟩ := o
   exact .inr ⟨m % per n f j, Nat.mod_lt _ (per_spec hf hi).1, by rw [← it_mod_per hf hi]; exact em⟩
  ·exact .inl ⟨j, by omega, o⟩

theorem seen_skip {n : Nat} {f : Nat → Nat} (hf : Bij n f) {i : Nat} (hi : i < n) {s : List Bool} (h : seenTo n f i s) (hs : rdOf false s (i : Int) = true) : seenTo n f (i + 1) s := by
 refine ⟨h.1, fun x hx => ?_⟩
 rw [h.2 x hx]
 obtain ⟨j, hj, o⟩ := (h.2 i hi).1 hs
 constructor
 ·rintro ⟨j, hj, o⟩; exact ⟨j, by omega, o⟩
 ·rintro ⟨j', hj', o'⟩
  by_cases e : j' = i
  ·subst e; exact ⟨j, hj, orb_trans o o'⟩
  ·exact ⟨j', by omega, o'⟩

theorem seen_min {n : Nat} {f : Nat → Nat} (hf : Bij n f) {i : Nat} (hi : i < n) {s : List Bool} (h : seenTo n f i s) : rdOf false s (i : Int) = !isMin n f i := by
 rw [Bool.eq_iff_iff, h.2 i hi, Bool.not_eq_true']
 constructor
 ·rintro ⟨j, hj, o⟩
  apply Bool.eq_false_iff.2
  intro m
  exact (isMin_iff' hf hi).1 m j hj o
 ·intro m
  apply Classical.byContradiction
  intro c
  have : isMin n f i = true := (isMin_iff' hf hi).2 fun j hj o => c ⟨j, hj, o⟩
  rw [m] at this; cases this

theorem seen_new {n : Nat} {f : Nat → Nat} (hf : Bij n f) {i k : Nat} (hi : i < n) {s : List Bool} (h : seenIn n f i k s) (hm : isMin n f i = true) (hk : k < per n f i) : rdOf false s (it f k i : Int) = false := by
 apply Bool.eq_false_iff.2
 intro c
 rcases (h.2 _ (it_lt hf k hi)).1 c with ⟨j, hj, o⟩ | ⟨m, hmk, e⟩
 ·exact (isMin_iff' hf hi).1 hm j hj (orb_trans o (orb_symm hf hi ⟨k, rfl⟩))
 ·have := it_inj_per hf hi (by omega) hk e
  omega

theorem seen_old {n : Nat} {f : Nat → Nat} (hf : Bij n f) {i : Nat} (hi : i < n) {s : List Bool} (h : seenIn n f i (per n f i) s) : rdOf false s (it f (per n f i) i : Int) = true := by
 have p := per_spec hf hi
 rw [p.2.2.1]
 exact (h.2 i hi).2 (.inr ⟨0, p.1, rfl⟩)

theorem cycsTo_succ (n : Nat) (f : Nat → Nat) (i : Nat) : cycsTo n f (i + 1) = if isMin n f i = true then cycsTo n f i ++ [ints (cyc n f i)] else cycsTo n f i := by
 unfold cycsTo
 rw [List.range_succ, List.filter_append, List.map_append]
 by_cases c : isMin n f i = true
 ·simp [c]
 ·simp [c]

def cycTo (f : Nat → Nat) (i k : Nat) : List Int := ints ((List.range k).map fun m => it f m i)

theorem cycTo_succ (f : Nat → Nat) (i k : Nat) : cycTo f i (k + 1) = cycTo f i k ++ [(it f k i : Int)] := by simp [cycTo, ints, List.range_succ]

theorem cycTo_len (f : Nat → Nat) (i k : Nat) : (cycTo f i k).length = k := by simp [cycTo, ints]

theorem implCycles_ev {n : Nat} {f : Nat → Nat} (hn : n ≤ 1000) (hf : Bij n f) : Ev (fun k => impl_cyclesOf.f k (pm n f)) (cycsL n f) := by
 have outer : ∀ d i (s : List Bool), i + d = n → seenTo n f i s → Ev (fun k => impl_cyclesOf.l0 k (pm n f) (cycsTo n f i) s (n : Int) (i : Int)) (cycsL n f) := by
  intro d
  induction d with
  | zero =>
   intro i s hi hs
   have e : i = n := by omega
   subst e
   exact Ev.step (f := fun _ => some (cycsTo i f i)) (fun k => by rw [impl_cyclesOf.l0, if_neg (by omega)]) (Ev.now _)
  | succ d ih =>
   intro i s hi hs
   have hin : i < n := by omega
   have cl := cycsTo_len n f i
   refine Ev.step (f := fun k => impl_cyclesOf.l1 k (pm n f) (cycsTo n f i) s [] (i : Int) (n : Int) (i : Int)) (fun k => by rw [impl_cyclesOf.l0, if_pos (by omega)]) ?_
   by_cases hm : isMin n f i = true
   ·have inner : ∀ e k (s : List Bool), k + e = per n f i → seenIn n f i k s → Ev (fun q => impl_cyclesOf.l1 q (pm n f) (cycsTo n f i) s (cycTo f i k) (it f k i : Int) (n : Int) (i : Int)) (cycsL n f) := by
     intro e
     induction e with
     | zero =>
      intro k s hk hs
      have ek : k = per n f i := by omega
      subst ek
      have p := per_spec hf hin
      have ho := seen_old hf hin hs
      refine Ev.step (f := fun q => impl_cyclesOf.l0 q (pm n f) (cycsTo n f (i + 1)) s (n : Int) ((i + 1 : Nat) : Int)) (fun q => by
       rw [impl_cyclesOf.l1, if_pos (by omega), if_pos (by rw [hs.1]; have := it_lt hf (per n f i) hin; omega), if_pos ho, if_pos (by rw [cycTo_len]; omega), if_pos (by omega), wrap_nat (by omega), cycsTo_succ, if_pos hm]; rfl) ?_
      exact ih (i + 1) s (by omega) (seen_end hf hin hs)
     | succ e ihe =>
      intro k s hk hs
      have hkn := it_lt hf k hin
      have p := per_spec hf hin
      have hnew := seen_new hf hin hs hm (by omega)
      refine Ev.step (f := fun q => impl_cyclesOf.l1 q (pm n f) (cycsTo n f i) (s.set (it f k i) true) (cycTo f i (k + 1)) (it f (k + 1) i : Int) (n : Int) (i : Int)) (fun q => by
       rw [impl_cyclesOf.l1, if_pos (by omega), if_pos (by rw [hs.1]; omega), if_neg (by rw [hnew]; simp), if_pos (by rw [cycTo_len]; omega), if_pos (by rw [pm_length]; omega), rd_pm hkn, cycTo_succ]; rfl) ?_
      exact ihe (k + 1) _ (by omega) (seen_step hf hin hs)
    exact inner (per n f i) 0 s (by omega) (seen_in hs)
   ·have ht : rdOf false s (i : Int) = true := by rw [seen_min hf hin hs]; simp [hm]
    refine Ev.step (f := fun q => impl_cyclesOf.l0 q (pm n f) (cycsTo n f (i + 1)) s (n : Int) ((i + 1 : Nat) : Int)) (fun q => by
     rw [impl_cyclesOf.l1, if_pos (by omega), if_pos (by rw [hs.1]; omega), if_pos ht, if_neg (by simp), wrap_nat (by omega), cycsTo_succ, if_neg hm]) ?_
    exact ih (i + 1) s (by omega) (seen_skip hf hin hs ht)
 unfold impl_cyclesOf.f
 simp only [pm_length]
 refine Ev.pos (by omega) (Ev.pos (by omega) ?_)
 have := outer n 0 _ (by omega) (seen_start n f)
 simpa [cycsTo] using this

theorem specCycles_ev {n : Nat} {f : Nat → Nat} (hn : n ≤ 1000) (hf : Bij n f) : Ev (fun k => spec_l1Cycles.f k (pm n f)) (cycsL n f) := by
 have outer : ∀ d i (s : List Bool), i + d = n → seenTo n f i s → Ev (fun k => spec_l1Cycles.l0 k (pm n f) (cycsTo n f i) s (i : Int)) (cycsL n f) := by
  intro d
  induction d with
  | zero =>
   intro i s hi hs
   have e : i = n := by omega
   subst e
   exact Ev.step (f := fun _ => some (cycsTo i f i)) (fun k => by rw [spec_l1Cycles.l0, if_neg (by rw [pm_length]; omega)]) (Ev.now _)
  | succ d ih =>
   intro i s hi hs
   have hin : i < n := by omega
   have cl := cycsTo_len n f i
   by_cases hm : isMin n f i = true
   ·have hnew : rdOf false s (i : Int) = false := by rw [seen_min hf hin hs]; simp [hm]
    refine Ev.step (f := fun k => spec_l1Cycles.l1 k (pm n f) (cycsTo n f i) s (i : Int) [] (i : Int)) (fun k => by
     rw [spec_l1Cycles.l0, if_pos (by rw [pm_length]; omega), if_pos (by omega), if_pos (by rw [hs.1]; omega), if_neg (by rw [hnew]; simp)]) ?_
    have inner : ∀ e k (s : List Bool), k + e = per n f i → seenIn n f i k s → Ev (fun q => spec_l1Cycles.l1 q (pm n f) (cycsTo n f i) s (i : Int) (cycTo f i k) (it f k i : Int)) (cycsL n f) := by
     intro e
     induction e with
     | zero =>
      intro k s hk hs
      have ek : k = per n f i := by omega
      subst ek
      have p := per_spec hf hin
      have ho := seen_old hf hin hs
      refine Ev.step (f := fun q => spec_l1Cycles.l0 q (pm n f) (cycsTo n f (i + 1)) s ((i + 1 : Nat) : Int)) (fun q => by
       rw [spec_l1Cycles.l1, if_pos (by omega), if_pos (by rw [hs.1]; have := it_lt hf (per n f i) hin; omega), if_pos ho, if_pos (by omega), wrap_nat (by omega), cycsTo_succ, if_pos hm]; rfl) ?_
      exact ih (i + 1) s (by omega) (seen_end hf hin hs)
     | succ e ihe =>
      intro k s hk hs
      have hkn := it_lt hf k hin
      have p := per_spec hf hin
      have hnew := seen_new hf hin hs hm (by omega)
      refine Ev.step (f := fun q => spec_l1Cycles.l1 q (pm n f) (cycsTo n f i) (s.set (it f k i) true) (i : Int) (cycTo f i (k + 1)) (it f (k + 1) i : Int)) (fun q => by
       rw [spec_l1Cycles.l1, if_pos (by omega), if_pos (by rw [hs.1]; omega), if_neg (by rw [hnew]; simp), if_pos (by rw [cycTo_len]; omega), if_pos (by rw [pm_length]; omega), rd_pm hkn, cycTo_succ]; rfl) ?_
      exact ihe (k + 1) _ (by omega) (seen_step hf hin hs)
    exact inner (per n f i) 0 s (by omega) (seen_in hs)
   ·have ht : rdOf false s (i : Int) = true := by rw [seen_min hf hin hs]; simp [hm]
    refine Ev.step (f := fun q => spec_l1Cycles.l0 q (pm n f) (cycsTo n f (i + 1)) s ((i + 1 : Nat) : Int)) (fun q => by
     rw [spec_l1Cycles.l0, if_pos (by rw [pm_length]; omega), if_pos (by omega), if_pos (by rw [hs.1]; omega), if_pos ht, wrap_nat (by omega), cycsTo_succ, if_neg hm]) ?_
    exact ih (i + 1) s (by omega) (seen_skip hf hin hs ht)
 unfold spec_l1Cycles.f
 simp only [pm_length]
 refine Ev.pos (by omega) (Ev.pos (by omega) ?_)
 have := outer n 0 _ (by omega) (seen_start n f)
 simpa [cycsTo] using this

theorem isPerm_rd {n : Nat} {a : List Int} {f : Nat → Nat} (h : IsPerm n a f) : ∀ i, i < n → (rd a (i : Int)).toNat = f i := by
 intro i hi; rw [h.2.2.2, rd_pm hi]; simp

theorem isPerm_len {n : Nat} {a : List Int} {f : Nat → Nat} (h : IsPerm n a f) : a.length = n := by rw [h.2.2.2, pm_length]

theorem isPerm_valid {n : Nat} {a : List Int} {f : Nat → Nat} (h : IsPerm n a f) : impl_PermValid.validB a = true :=
 (valid_iff a).2 ⟨f, by rw [isPerm_len h]; exact h⟩

theorem ints_len (l : List Nat) : (ints l).length = l.length := by simp [ints]

theorem ints_rd {l : List Nat} {i : Nat} (h : i < l.length) : rd (ints l) (i : Int) = (l[i] : Int) := by
 rw [rd_get (by rw [ints_len]; exact h)]; simp [ints]

theorem clone_ev {a : List Int} (h : a.length ≤ 1048576) : Ev (fun _ => slices_Clone_int_int.f a) a := by
 unfold slices_Clone_int_int.f
 exact Ev.pos (by omega) (Ev.now _)

theorem mn_nat (a b : Nat) : mn (a : Int) (b : Int) = ((min a b : Nat) : Int) := by
 unfold mn
 rcases Nat.lt_or_ge b a with c | c
 ·rw [if_pos (by omega), Nat.min_def, if_neg (by omega)]
 ·rw [if_neg (by omega), Nat.min_def, if_pos c]

/-- o where i and j are told the number v -/
def up2 (o : Nat → Nat) (i j v : Nat) (x : Nat) : Nat := if j = x then v else if i = x then v else o x

theorem set2_pm {n : Nat} {o : Nat → Nat} {i j v : Nat} (hi : i < n) (hj : j < n) : ((pm n o).set i (v : Int)).set j (v : Int) = pm n (up2 o i j v) := by
 refine eq_pm' (by simp [pm_length]) fun x hx => ?_
 rw [rd_set (by simp [pm_length]; exact hj), rd_set (by rw [pm_length]; exact hi), rd_pm hx]
 unfold up2
 by_cases c : j = x
 ·simp [c]
 ·by_cases d : i = x
  ·simp [c, d]
  ·simp [c, d]

/-- what stays true of o -/
structure Oks (n : Nat) (a b o : Nat → Nat) : Prop where
 le : ∀ x, x < n → o x ≤ x
 conn : ∀ x, x < n → conn n a b x (o x)

theorem Oks.start (n : Nat) (a b : Nat → Nat) : Oks n a b (fun i => i) := ⟨fun _ _ => Nat.le_refl _, fun x _ => conn_refl n a b x⟩

theorem Oks.up {n : Nat} {a b o : Nat → Nat} (h : Oks n a b o) {i j : Nat} (hi : i < n) (hj : j < n) (hc : Sm.conn n a b i j) : Oks n a b (up2 o i j (min (o i) (o j))) := by
 have ci : Sm.conn n a b i (min (o i) (o j)) := by
  rw [Nat.min_def]
  split
  ·exact h.conn i hi
  ·exact conn_trans hc (h.conn j hj)
 refine ⟨fun x hx => ?_, fun x hx => ?_⟩
 ·unfold up2
  have e1 := h.le i hi
  have e2 := h.le j hj
  have m1 : min (o i) (o j) ≤ o i := Nat.min_le_left _ _
  have m2 : min (o i) (o j) ≤ o j := Nat.min_le_right _ _
  split
  ·omega
  ·split
   ·omega
   ·exact h.le x hx
 ·unfold up2
  split
  ·rename_i e; subst e; exact conn_trans (conn_symm hc) ci
  ·split
   ·rename_i e; subst e; exact ci
   ·exact h.conn x hx

def total (o : Nat → Nat) : Nat → Nat
 | 0 => 0
 | n + 1 => total o n + o n

theorem total_le {o o' : Nat → Nat} {n : Nat} (h : ∀ x, x < n → o' x ≤ o x) : total o' n ≤ total o n := by
 induction n with
 | zero => exact Nat.le_refl _
 | succ n ih =>
  have := ih (fun x hx => h x (by omega))
  have := h n (by omega)
  simp only [total]; omega

theorem total_lt {o o' : Nat → Nat} {n : Nat} (h : ∀ x, x < n → o' x ≤ o x) {y : Nat} (hy : y < n) (hlt : o' y < o y) : total o' n < total o n := by
 induction n with
 | zero => omega
 | succ n ih =>
  simp only [total]
  by_cases c : y = n
  ·subst c
   have := total_le (o := o) (o' := o') (n := y) (fun x hx => h x (by omega))
   omega
  ·have := ih (fun x hx => h x (by omega)) (by omega)
   have := h n (by omega)
   omega

theorem up2_le {o : Nat → Nat} {i j : Nat} (x : Nat) : up2 o i j (min (o i) (o j)) x ≤ o x := by
 unfold up2
 have m1 : min (o i) (o j) ≤ o i := Nat.min_le_left _ _
 have m2 : min (o i) (o j) ≤ o j := Nat.min_le_right _ _
 split
 ·rename_i e; subst e; exact m2
 ·split
  ·rename_i e; subst e; exact m1
  ·exact Nat.le_refl _

def OrbEnd (n : Nat) (a b : Nat → Nat) (r : List Int) : Prop := ∃ o, IsOrb n a b o ∧ r = pm n o

/-- one way through a permutation -/
theorem orbits_pass {n : Nat} {a b p : Nat → Nat} (hn : n ≤ 1000) (hp : Bij n p) (hc : ∀ i, i < n → conn n a b i (p i)) (q : Nat) (ls : List (List Int)) :
 ∀ d i (o o0 : Nat → Nat) (fl : Bool), i + d = n → Oks n a b o →
  (∀ x, x < n → o x ≤ o0 x) → (fl = false → ∀ x, x < n → o x = o0 x) → (fl = true → total o n < total o0 n) → (fl = false → ∀ x, x < i → o (p x) = o x) →
  (∀ o' fl', Oks n a b o' → (∀ x, x < n → o' x ≤ o0 x) → (fl' = false → ∀ x, x < n → o' x = o0 x) → (fl' = true → total o' n < total o0 n) → (fl' = false → ∀ x, x < n → o' (p x) = o' x) → (fl = true → fl' = true) →
   ∃ r, OrbEnd n a b r ∧ Ev (fun k => impl_orbits.l1 k ls (pm n o') fl' ls (ls.length : Int) (wrap64 ((q : Int) + 1))) r) →
  ∃ r, OrbEnd n a b r ∧ Ev (fun k => impl_orbits.l2 k ls (pm n o) fl ls (ls.length : Int) (q : Int) (pm n p) (n : Int) (i : Int)) r := by
 intro d
 induction d with
 | zero =>
  intro i o o0 fl hi ho h1 h2 h3 h4 hnext
  have e : i = n := by omega
  subst e
  obtain ⟨r, hr, ev⟩ := hnext o fl ho h1 h2 h3 h4 id
  exact ⟨r, hr, Ev.step (fun k => by rw [impl_orbits.l2, if_neg (by omega)]) ev⟩
 | succ d ih =>
  intro i o o0 fl hi ho h1 h2 h3 h4 hnext
  have hin : i < n := by omega
  have hpi := hp.1 i hin
  have ei : rd (pm n o) (i : Int) = (o i : Int) := rd_pm hin
  have ep : rd (pm n p) (i : Int) = (p i : Int) := rd_pm hin
  have eo : rd (pm n o) ((p i : Nat) : Int) = (o (p i) : Int) := rd_pm hpi
  have head : ∀ k, impl_orbits.l2 (k + 1) ls (pm n o) fl ls (ls.length : Int) (q : Int) (pm n p) (n : Int) (i : Int) =
   if o i = o (p i) then impl_orbits.l2 k ls (pm n o) fl ls (ls.length : Int) (q : Int) (pm n p) (n : Int) ((i + 1 : Nat) : Int)
   else impl_orbits.l2 k ls (pm n (up2 o i (p i) (min (o i) (o (p i))))) true ls (ls.length : Int) (q : Int) (pm n p) (n : Int) ((i + 1 : Nat) : Int) := by
   intro k
   rw [impl_orbits.l2, if_pos (by omega), if_pos (by omega), if_pos (by rw [pm_length]; omega), if_pos (by rw [pm_length]; omega), ep, if_pos (by omega), if_pos (by rw [pm_length]; omega), ei, eo, mn_nat, wrap_nat (by omega)]
   have es : ((pm n o).set (i : Int).toNat ((min (o i) (o (p i)) : Nat) : Int)).set ((p i : Nat) : Int).toNat ((min (o i) (o (p i)) : Nat) : Int) = pm n (up2 o i (p i) (min (o i) (o (p i)))) := set2_pm hin hpi
   rw [es]
   have m' : min (o i) (o (p i)) = if o i ≤ o (p i) then o i else o (p i) := Nat.min_def
   rw [m']
   by_cases c : o i = o (p i)
   ·rw [if_pos c, if_pos (by split <;> omega), if_pos (by split <;> omega)]
   ·rw [if_neg c]
    by_cases c2 : o i ≤ o (p i)
    ·rw [if_pos c2, if_pos rfl, if_neg (by omega)]
    ·rw [if_neg c2, if_neg (by omega)]
  by_cases c : o i = o (p i)
  ·obtain ⟨r, hr, ev⟩ := ih (i + 1) o o0 fl (by omega) ho h1 h2 h3 (fun e x hx => by
    by_cases d : x = i
    ·subst d; exact c.symm
    ·exact h4 e x (by omega)) hnext
   exact ⟨r, hr, Ev.step (fun k => by rw [head k, if_pos c]) ev⟩
  ·have ho' := ho.up hin hpi (hc i hin)
   have hlt : total (up2 o i (p i) (min (o i) (o (p i)))) n < total o0 n := by
    have a1 := total_le (o := o0) (o' := o) (n := n) h1
    have m' : min (o i) (o (p i)) = if o i ≤ o (p i) then o i else o (p i) := Nat.min_def
    by_cases c2 : o i ≤ o (p i)
    ·have := total_lt (o := o) (o' := up2 o i (p i) (min (o i) (o (p i)))) (n := n) (fun x _ => up2_le x) hpi (by
      unfold up2; rw [if_pos rfl, m', if_pos c2]; omega)
     omega
    ·have := total_lt (o := o) (o' := up2 o i (p i) (min (o i) (o (p i)))) (n := n) (fun x _ => up2_le x) hin (by
      unfold up2; rw [m', if_neg c2]; split
      ·omega
      ·rw [if_pos rfl]; omega)
     omega
   obtain ⟨r, hr, ev⟩ := ih (i + 1) (up2 o i (p i) (min (o i) (o (p i)))) o0 true (by omega) ho' (fun x hx => Nat.le_trans (up2_le x) (h1 x hx)) (fun e => by cases e) (fun _ => hlt) (fun e => by cases e) (fun o' fl' q1 q2 q3 q4 q5 q6 => hnext o' fl' q1 q2 q3 q4 q5 (fun _ => q6 rfl))
   exact ⟨r, hr, Ev.step (fun k => by rw [head k, if_neg c]) ev⟩

theorem implOrbits_ex {n : Nat} {a b : Nat → Nat} (hn : n ≤ 1000) (h1 : 1 ≤ n) (ha : Bij n a) (hb : Bij n b) : ∃ o, IsOrb n a b o ∧ Ev (fun k => impl_orbits.f k [pm n a, pm n b]) (pm n o) := by
 have loop : ∀ t (o : Nat → Nat), total o n ≤ t → Oks n a b o → ∃ r, OrbEnd n a b r ∧ Ev (fun k => impl_orbits.l0 k [pm n a, pm n b] (pm n o) true) r := by
  intro t
  induction t using Nat.strongRecOn with
  | _ t ih =>
   intro o ht ho
   have r0 : rd_L1 [pm n a, pm n b] ((0 : Nat) : Int) = pm n a := rfl
   have r1 : rd_L1 [pm n a, pm n b] ((1 : Nat) : Int) = pm n b := rfl
   obtain ⟨r, hr, ev⟩ := orbits_pass (a := a) (b := b) hn ha (fun i hi => conn_a hi) 0 [pm n a, pm n b] n 0 o o false (by omega) ho (fun _ _ => Nat.le_refl _) (fun _ _ _ => rfl) (fun e => by cases e) (fun _ x hx => absurd hx (by omega)) (fun o1 f1 ho1 l1 e1 t1 p1 _ => by
    obtain ⟨r, hr, ev⟩ := orbits_pass (a := a) (b := b) hn hb (fun i hi => conn_b hi) 1 [pm n a, pm n b] n 0 o1 o f1 (by omega) ho1 l1 e1 t1 (fun _ x hx => absurd hx (by omega)) (fun o2 f2 ho2 l2 e2 t2 p2 k2 => by
     have w2 : wrap64 (((1 : Nat) : Int) + 1) = 2 := by unfold wrap64; omega
     cases hf2 : f2 with
     | true =>
      have tl := t2 hf2
      obtain ⟨r, hr, ev⟩ := ih (total o2 n) (by omega) o2 (Nat.le_refl _) ho2
      refine ⟨r, hr, Ev.step (fun k => ?_) ev⟩
      rw [w2, impl_orbits.l1, if_neg (by simp)]
     | false =>
      have e2' := e2 hf2
      have f1f : f1 = false := by
       cases hf1 : f1 with
       | false => rfl
       | true => have := k2 hf1; rw [hf2] at this; cases this
      have e1' := e1 f1f
      have inv : IsOrb n a b o2 := ⟨fun x hx => ⟨by
       rw [e2' _ (ha.1 x hx), e2' x hx, ← e1' _ (ha.1 x hx), ← e1' x hx]; exact p1 f1f x hx, p2 hf2 x hx⟩, ho2.le, ho2.conn⟩
      refine ⟨pm n o2, ⟨o2, inv, rfl⟩, ?_⟩
      refine Ev.step (f := fun k => impl_orbits.l0 k [pm n a, pm n b] (pm n o2) false) (fun k => by rw [w2, impl_orbits.l1, if_neg (by simp)]) ?_
      exact Ev.step (f := fun _ => some (pm n o2)) (fun k => by rw [impl_orbits.l0, if_neg (by simp)]) (Ev.now _))
    refine ⟨r, hr, Ev.step (fun k => ?_) ev⟩
    have w1 : wrap64 (((0 : Nat) : Int) + 1) = ((1 : Nat) : Int) := by unfold wrap64; omega
    rw [w1, impl_orbits.l1, if_pos (by simp), if_pos (by omega), if_pos (by simp), r1, pm_length]; rfl)
   refine ⟨r, hr, ?_⟩
   refine Ev.step (f := fun k => impl_orbits.l1 k [pm n a, pm n b] (pm n o) false [pm n a, pm n b] (([pm n a, pm n b] : List (List Int)).length : Int) 0) (fun k => by rw [impl_orbits.l0, if_pos rfl]) ?_
   refine Ev.step (fun k => ?_) ev
   have : (0 : Int) = ((0 : Nat) : Int) := rfl
   rw [this, impl_orbits.l1, if_pos (by simp), if_pos (by omega), if_pos (by simp), r0, pm_length]; rfl
 obtain ⟨r, ⟨o, ho, rfl⟩, ev⟩ := loop (total (fun i => i) n) (fun i => i) (Nat.le_refl _) (Oks.start n a b)
 refine ⟨o, ho, ?_⟩
 unfold impl_orbits.f
 refine Ev.pos (by simp) ?_
 have e : ((rd_L1 [pm n a, pm n b] 0).length : Int) = (n : Int) := by
  show ((pm n a).length : Int) = _; rw [pm_length]
 rw [e]
 exact Ev.bind1 (still_ev hn) ev

def up3 (o : Nat → Nat) (i j k v : Nat) (x : Nat) : Nat := if k = x then v else if j = x then v else if i = x then v else o x

theorem set3_pm {n : Nat} {o : Nat → Nat} {i j k v : Nat} (hi : i < n) (hj : j < n) (hk : k < n) : (((pm n o).set i (v : Int)).set j (v : Int)).set k (v : Int) = pm n (up3 o i j k v) := by
 refine eq_pm' (by simp [pm_length]) fun x hx => ?_
 rw [rd_set (by simp [pm_length]; exact hk), rd_set (by simp [pm_length]; exact hj), rd_set (by rw [pm_length]; exact hi), rd_pm hx]
 unfold up3
 by_cases c : k = x
 ·simp [c]
 ·by_cases d : j = x
  ·simp [c, d]
  ·by_cases e : i = x
   ·simp [c, d, e]
   ·simp [c, d, e]

/-- between the least point and the start -/
structure Between (n : Nat) (a b O o : Nat → Nat) : Prop where
 low : ∀ x, x < n → O x ≤ o x
 high : ∀ x, x < n → o x ≤ x

def lowest (o a b : Nat → Nat) (i : Nat) : Nat := min (o i) (min (o (a i)) (o (b i)))

theorem Between.up {n : Nat} {a b O o : Nat → Nat} (ha : Bij n a) (hb : Bij n b) (hO : IsOrb n a b O) (h : Between n a b O o) {i : Nat} (hi : i < n) :
 Between n a b O (up3 o i (a i) (b i) (lowest o a b i)) ∧ (∀ x, up3 o i (a i) (b i) (lowest o a b i) x ≤ o x) ∧ (o i = O i → up3 o i (a i) (b i) (lowest o a b i) (a i) = O (a i) ∧ up3 o i (a i) (b i) (lowest o a b i) (b i) = O (b i)) := by
 have l1 := h.low i hi
 have l2 := h.low _ (ha.1 i hi)
 have l3 := h.low _ (hb.1 i hi)
 have k1 := (hO.keep i hi).1
 have k2 := (hO.keep i hi).2
 have vlow : O i ≤ lowest o a b i := by unfold lowest; omega
 have v1 : lowest o a b i ≤ o i := by unfold lowest; omega
 have v2 : lowest o a b i ≤ o (a i) := by unfold lowest; omega
 have v3 : lowest o a b i ≤ o (b i) := by unfold lowest; omega
 have le : ∀ x, up3 o i (a i) (b i) (lowest o a b i) x ≤ o x := by
  intro x; unfold up3
  split
  ·rename_i e; rw [← e]; exact v3
  ·split
   ·rename_i e; rw [← e]; exact v2
   ·split
    ·rename_i e; rw [← e]; exact v1
    ·exact Nat.le_refl _
 refine ⟨⟨fun x hx => ?_, fun x hx => Nat.le_trans (le x) (h.high x hx)⟩, le, fun e => ?_⟩
 ·unfold up3
  split
  ·rename_i e; rw [← e, k2]; exact vlow
  ·split
   ·rename_i e; rw [← e, k1]; exact vlow
   ·split
    ·rename_i e; rw [← e]; exact vlow
    ·exact h.low x hx
 ·have v : lowest o a b i = O i := by omega
  constructor
  ·unfold up3
   split
   ·rw [v, k1]
   ·rw [if_pos rfl, v, k1]
  ·unfold up3
   rw [if_pos rfl, v, k2]

theorem specOrbits_round {n : Nat} {a b O : Nat → Nat} (hn : n ≤ 1000) (ha : Bij n a) (hb : Bij n b) (hO : IsOrb n a b O) (q : Nat) (r : List Int) (o0 : Nat → Nat) :
 ∀ d i (o : Nat → Nat), i + d = n → Between n a b O o → (∀ x, o x ≤ o0 x) → (∀ x, x < i → o0 x = O x → o (a x) = O (a x) ∧ o (b x) = O (b x)) →
  (∀ o', Between n a b O o' → (∀ x, o' x ≤ o0 x) → (∀ x, x < n → o0 x = O x → o' (a x) = O (a x) ∧ o' (b x) = O (b x)) → Ev (fun k => spec_l1Orbits.l0 k (pm n a) (pm n b) (pm n o') (wrap64 ((q : Int) + 1))) r) →
  Ev (fun k => spec_l1Orbits.l1 k (pm n a) (pm n b) (pm n o) (q : Int) (i : Int)) r := by
 intro d
 induction d with
 | zero =>
  intro i o hi ho h1 h2 hnext
  have e : i = n := by omega
  subst e
  exact Ev.step (fun k => by rw [spec_l1Orbits.l1, if_neg (by rw [pm_length]; omega)]) (hnext o ho h1 h2)
 | succ d ih =>
  intro i o hi ho h1 h2 hnext
  have hin : i < n := by omega
  have hai := ha.1 i hin
  have hbi := hb.1 i hin
  have ei : rd (pm n o) (i : Int) = (o i : Int) := rd_pm hin
  have ea : rd (pm n a) (i : Int) = (a i : Int) := rd_pm hin
  have eb : rd (pm n b) (i : Int) = (b i : Int) := rd_pm hin
  have eoa : rd (pm n o) ((a i : Nat) : Int) = (o (a i) : Int) := rd_pm hai
  have eob : rd (pm n o) ((b i : Nat) : Int) = (o (b i) : Int) := rd_pm hbi
  obtain ⟨u1, u2, u3⟩ := ho.up ha hb hO hin
  have es : (((pm n o).set (i : Int).toNat ((lowest o a b i : Nat) : Int)).set ((a i : Nat) : Int).toNat ((lowest o a b i : Nat) : Int)).set ((b i : Nat) : Int).toNat ((lowest o a b i : Nat) : Int) = pm n (up3 o i (a i) (b i) (lowest o a b i)) := set3_pm hin hai hbi
  refine Ev.step (f := fun k => spec_l1Orbits.l1 k (pm n a) (pm n b) (pm n (up3 o i (a i) (b i) (lowest o a b i))) (q : Int) ((i + 1 : Nat) : Int)) (fun k => by
   rw [spec_l1Orbits.l1, if_pos (by rw [pm_length]; omega), if_pos (by omega), if_pos (by rw [pm_length]; omega), ea, if_pos (by omega), if_pos (by rw [pm_length]; omega), if_pos (by rw [pm_length]; omega), eb, if_pos (by omega), if_pos (by rw [pm_length]; omega), ei, eoa, eob, mn_nat, mn_nat, wrap_nat (by omega)]
   have es' := es
   unfold lowest at es' ⊢
   rw [es']) ?_
  refine ih (i + 1) _ (by omega) u1 (fun x => Nat.le_trans (u2 x) (h1 x)) (fun x hx hxo => ?_) hnext
  by_cases e : x = i
  ·subst e
   have := ho.low x hin
   have := h1 x
   exact u3 (by omega)
  ·obtain ⟨p1, p2⟩ := h2 x (by omega) hxo
   have hx' : x < n := by omega
   have q1 := u2 (a x)
   have q2 := u1.low _ (ha.1 x hx')
   have q3 := u2 (b x)
   have q4 := u1.low _ (hb.1 x hx')
   exact ⟨by omega, by omega⟩

/-- how many points tell their least one -/
def right (n : Nat) (O o : Nat → Nat) : Nat := (List.range n).countP fun x => o x == O x

theorem right_full {n : Nat} {O o : Nat → Nat} (h : right n O o = n) : ∀ x, x < n → o x = O x := by
 unfold right at h
 have : (List.range n).countP (fun x => o x == O x) = (List.range n).length := by rw [h, List.length_range]
 rw [List.countP_eq_length] at this
 intro x hx
 simpa using this x (by simpa using hx)

theorem right_grows {n : Nat} {a b O o o' : Nat → Nat} (ha : Bij n a) (hb : Bij n b) (hO : IsOrb n a b O) (h : Between n a b O o) (h' : Between n a b O o') (le : ∀ x, o' x ≤ o x)
 (st : ∀ x, x < n → o x = O x → o' (a x) = O (a x) ∧ o' (b x) = O (b x)) (hlt : right n O o < n) : right n O o < right n O o' := by
 have keep : ∀ x, x < n → o x = O x → o' x = O x := fun x hx e => by
  have := h'.low x hx; have := le x; omega
 -- a point that is not right yet
 have ex : ∃ x, x < n ∧ o x ≠ O x := by
  apply Classical.byContradiction
  intro c
  have : right n O o = n := by
   unfold right
   rw [List.countP_eq_length.2, List.length_range]
   intro x hx
   simp
   apply Classical.byContradiction
   intro d
   exact c ⟨x, by simpa using hx, d⟩
  omega
 obtain ⟨x, hx, hxo⟩ := ex
 have hm := hO.lt hx
 have om : o (O x) = O (O x) := by
  have i := hO.idem hx
  have := h.low _ hm
  have := h.high _ hm
  omega
 -- an edge out of the right ones
 have ex2 : ∃ u, u < n ∧ o u ≠ O u ∧ o' u = O u := by
  apply Classical.byContradiction
  intro c
  have cl : ∀ y, y < n → o y = O y → o (a y) = O (a y) ∧ o (b y) = O (b y) := by
   intro y hy e
   obtain ⟨s1, s2⟩ := st y hy e
   constructor
   ·apply Classical.byContradiction; intro d; exact c ⟨a y, ha.1 y hy, d, s1⟩
   ·apply Classical.byContradiction; intro d; exact c ⟨b y, hb.1 y hy, d, s2⟩
  exact hxo (conn_closed ha hb (fun y => o y = O y) (fun y hy e => (cl y hy e).1) (fun y hy e => (cl y hy e).2) (conn_symm (hO.conn x hx)) om)
 obtain ⟨u, hu, u1, u2⟩ := ex2
 unfold right
 have split : ∀ l : List Nat, (∀ y, y ∈ l → y < n) → l.countP (fun x => o x == O x) ≤ l.countP (fun x => o' x == O x) ∧ (u ∈ l → l.countP (fun x => o x == O x) < l.countP (fun x => o' x == O x)) := by
  intro l
  induction l with
  | nil => intro _; exact ⟨Nat.le_refl _, fun h => by simp at h⟩
  | cons y l ih =>
   intro hl
   obtain ⟨i1, i2⟩ := ih (fun z hz => hl z (by simp [hz]))
   have hy := hl y (by simp)
   rw [List.countP_cons, List.countP_cons]
   have mono : (if (o y == O y) = true then 1 else 0) ≤ (if (o' y == O y) = true then 1 else 0) := by
    by_cases e : o y = O y
    ·have := keep y hy e; simp [e, this]
    ·simp [e]
   refine ⟨by omega, fun hm => ?_⟩
   by_cases e : u = y
   ·subst e
    simp [u1, u2]; omega
   ·have := i2 (by simpa [e] using hm)
    omega
 exact (split (List.range n) (fun y hy => by simpa using hy)).2 (by simpa using hu)

theorem specOrbits_ev {n : Nat} {a b O : Nat → Nat} (hn : n ≤ 1000) (ha : Bij n a) (hb : Bij n b) (hO : IsOrb n a b O) : Ev (fun k => spec_l1Orbits.f k (pm n a) (pm n b)) (pm n O) := by
 have loop : ∀ d q (o : Nat → Nat), q + d = n → Between n a b O o → q ≤ right n O o → Ev (fun k => spec_l1Orbits.l0 k (pm n a) (pm n b) (pm n o) (q : Int)) (pm n O) := by
  intro d
  induction d with
  | zero =>
   intro q o hq ho hr
   have e : pm n o = pm n O := by
    rw [pm_ext]
    have : right n O o ≤ n := by
     unfold right
     have := List.countP_le_length (p := fun x => o x == O x) (l := List.range n)
     simpa using this
    exact right_full (by omega)
   rw [e]
   exact Ev.step (f := fun _ => some (pm n O)) (fun k => by rw [spec_l1Orbits.l0, if_neg (by rw [pm_length]; omega)]) (Ev.now _)
  | succ d ih =>
   intro q o hq ho hr
   refine Ev.step (f := fun k => spec_l1Orbits.l1 k (pm n a) (pm n b) (pm n o) (q : Int) ((0 : Nat) : Int)) (fun k => by
    rw [spec_l1Orbits.l0, if_pos (by rw [pm_length]; omega)]; rfl) ?_
   refine specOrbits_round hn ha hb hO q (pm n O) o n 0 o (by omega) ho (fun _ => Nat.le_refl _) (fun x hx => absurd hx (by omega)) (fun o' h1 h2 h3 => ?_)
   rw [wrap_nat (by omega)]
   refine ih (q + 1) o' (by omega) h1 ?_
   by_cases c : right n O o < n
   ·have := right_grows ha hb hO ho h1 h2 h3 c
    omega
   ·have le : right n O o ≤ n := by
     unfold right
     have := List.countP_le_length (p := fun x => o x == O x) (l := List.range n)
     simpa using this
    have full := right_full (n := n) (O := O) (o := o) (by omega)
    have : right n O o' = n := by
     unfold right
     rw [List.countP_eq_length.2, List.length_range]
     intro x hx
     have hx' : x < n := by simpa using hx
     have := full x hx'
     have := h1.low x hx'
     have := h2 x
     simp; omega
    omega
 unfold spec_l1Orbits.f
 rw [pm_length]
 refine Ev.bind1 (l1Same_ev hn) ?_
 exact loop n 0 (fun i => i) (by omega) ⟨fun x hx => hO.le x hx, fun _ _ => Nat.le_refl _⟩ (Nat.zero_le _)

theorem mx_nat (a b : Nat) : mx (a : Int) (b : Int) = ((max a b : Nat) : Int) := by
 unfold mx
 rcases Nat.lt_or_ge a b with c | c
 ·rw [if_pos (by omega), Nat.max_def, if_pos (by omega)]
 ·rw [if_neg (by omega), Nat.max_def]; split <;> omega

theorem max_ev {n : Nat} {o : Nat → Nat} (h1 : 1 ≤ n) (hn : n ≤ 1000) : ∃ m : Nat, Ev (fun k => slices_Max_int_int.f k (pm n o)) (m : Int) ∧ (m = 0 ↔ ∀ x, x < n → o x = 0) := by
 have loop : ∀ d i (m : Nat), i + d = n → (m = 0 ↔ ∀ x, x < i → o x = 0) → ∃ m' : Nat, Ev (fun k => slices_Max_int_int.l0 k (pm n o) (m : Int) (i : Int)) (m' : Int) ∧ (m' = 0 ↔ ∀ x, x < n → o x = 0) := by
  intro d
  induction d with
  | zero =>
   intro i m hi hm
   have e : i = n := by omega
   subst e
   exact ⟨m, Ev.step (f := fun _ => some (m : Int)) (fun k => by rw [slices_Max_int_int.l0, if_neg (by rw [pm_length]; omega)]) (Ev.now _), hm⟩
  | succ d ih =>
   intro i m hi hm
   have hin : i < n := by omega
   obtain ⟨m', ev, h⟩ := ih (i + 1) (max m (o i)) (by omega) (by
    constructor
    ·intro e x hx
     have e1 : m = 0 := by omega
     by_cases c : x = i
     ·subst c; omega
     ·exact hm.1 e1 x (by omega)
    ·intro e
     have := hm.2 fun x hx => e x (by omega)
     have := e i (by omega)
     omega)
   refine ⟨m', Ev.step (f := fun k => slices_Max_int_int.l0 k (pm n o) ((max m (o i) : Nat) : Int) ((i + 1 : Nat) : Int)) (fun k => by
    rw [slices_Max_int_int.l0, if_pos (by rw [pm_length]; omega), if_pos (by omega), rd_pm hin, mx_nat, wrap_nat (by omega)]) ev, h⟩
 obtain ⟨m', ev, h⟩ := loop (n - 1) 1 (o 0) (by omega) (by
  constructor
  ·intro e x hx
   have : x = 0 := by omega
   subst this; exact e
  ·intro e; exact e 0 (by omega))
 refine ⟨m', ?_, h⟩
 unfold slices_Max_int_int.f
 refine Ev.neg (by rw [pm_length]; omega) (Ev.pos (by rw [pm_length]; omega) ?_)
 have e0 : rd (pm n o) 0 = (o 0 : Int) := rd_pm (i := 0) (by omega)
 rw [e0]
 exact ev

/-- two lists that are a map: the second has no fixed point and is its own way back, and they lead everywhere -/
def IsMp (n : Nat) (a b : List Int) (f g : Nat → Nat) : Prop := IsPerm n a f ∧ IsPerm n b g ∧ (∀ i, i < n → g i ≠ i ∧ g (g i) = i) ∧ ∃ o, IsOrb n f g o ∧ ∀ x, x < n → o x = 0

def mapAt (a b : List Int) : Prop := ∃ n f g, IsMp n a b f g

noncomputable def mvalid (a b : List Int) : Bool := @decide (mapAt a b) (Classical.propDecidable _)

theorem mvalid_iff (a b : List Int) : mvalid a b = true ↔ mapAt a b := by unfold mvalid; simp

theorem mvalid_no {a b : List Int} (h : ¬ mapAt a b) : mvalid a b = false := by unfold mvalid; simp [h]

theorem mvalid_yes {a b : List Int} (h : mapAt a b) : mvalid a b = true := by unfold mvalid; simp [h]

theorem mapAt_both {a b : List Int} (h : mapAt a b) : both a b = true := by
 obtain ⟨n, f, g, hf, hg, _⟩ := h
 exact (both_iff a b).2 ⟨n, f, g, hf, hg⟩

theorem isPerm_same {n m : Nat} {a : List Int} {f g : Nat → Nat} (h : IsPerm n a f) (k : IsPerm m a g) : m = n ∧ ∀ i, i < n → g i = f i := by
 have e : m = n := by rw [← isPerm_len h, isPerm_len k]
 subst e
 exact ⟨rfl, fun i hi => by rw [← isPerm_rd h i hi, isPerm_rd k i hi]⟩

theorem isOrb_congr {n : Nat} {f g f' g' o : Nat → Nat} (ho : IsOrb n f g o) (ef : ∀ i, i < n → f' i = f i) (eg : ∀ i, i < n → g' i = g i) : IsOrb n f' g' o := by
 refine ⟨fun x hx => ?_, ho.le, fun x hx => ?_⟩
 ·rw [ef x hx, eg x hx]; exact ho.keep x hx
 ·intro cc hcc
  exact ho.conn x hx cc (fun y hy => by rw [← ef y hy, ← eg y hy]; exact hcc y hy)

/-- what it takes, when both are permutations -/
theorem mapAt_iff {n : Nat} {a b : List Int} {f g : Nat → Nat} (hf : IsPerm n a f) (hg : IsPerm n b g) {o : Nat → Nat} (ho : IsOrb n f g o) : mapAt a b ↔ (∀ i, i < n → g i ≠ i ∧ g (g i) = i) ∧ ∀ x, x < n → o x = 0 := by
 constructor
 ·rintro ⟨m, f', g', hf', hg', h1, o', ho', h2⟩
  obtain ⟨rfl, ef⟩ := isPerm_same hf hf'
  obtain ⟨_, eg⟩ := isPerm_same hg hg'
  refine ⟨fun i hi => ?_, fun x hx => ?_⟩
  ·have := h1 i hi
   rw [eg i hi, eg (g i) (hg.2.2.1.1 i hi)] at this
   exact this
  ·rw [← (isOrb_congr ho' (fun i hi => (ef i hi).symm) (fun i hi => (eg i hi).symm)).unique ho x hx]; exact h2 x hx
 ·rintro ⟨h1, h2⟩
  exact ⟨n, f, g, hf, hg, h1, o, ho, h2⟩

theorem implMapValid_ev (a b : List Int) : Ev (fun k => impl_MapValid.f k a b) (mvalid a b) := by
 unfold impl_MapValid.f
 have bad : ¬ mapAt a b → Ev (fun k => impl_MapValid.j0 k true a b) (mvalid a b) := by
  intro h
  rw [mvalid_no h]
  exact Ev.step (f := fun _ => some false) (fun k => by rw [impl_MapValid.j0, if_pos rfl]) (Ev.now _)
 by_cases c : both a b = true
 ·obtain ⟨n, f, g, hf, hg⟩ := (both_iff a b).1 c
  have h12 := hf.2.1
  have lf := isPerm_len hf
  have lg := isPerm_len hg
  obtain ⟨o, ho, ev⟩ := implOrbits_ex (by omega) hf.1 hf.2.2.1 hg.2.2.1
  have iff := mapAt_iff hf hg ho
  have e : ((a.length : Int) != (b.length : Int)) = false := by rw [lf, lg]; simp
  refine Ev.bind1 (implValid_ev a) (Ev.pos (isPerm_valid hf) (Ev.bind1 (implValid_ev b) (Ev.pos (isPerm_valid hg) ?_)))
  rw [e]
  refine Ev.step (f := fun k => impl_MapValid.l0 k b (n : Int) ((0 : Nat) : Int) a b) (fun k => by rw [impl_MapValid.j0, if_neg (by simp), lg]; rfl) ?_
  have loop : ∀ d i, i + d = n → (∀ j, j < i → g j ≠ j ∧ g (g j) = j) → Ev (fun k => impl_MapValid.l0 k b (n : Int) (i : Int) a b) (mvalid a b) := by
   intro d
   induction d with
   | zero =>
    intro i hi hall
    have ei : i = n := by omega
    subst ei
    obtain ⟨m, em, hm⟩ := max_ev (o := o) hf.1 (by omega)
    refine Ev.step (fun k => by rw [impl_MapValid.l0]) (Ev.neg (by omega) ?_)
    have ev' : Ev (fun k => impl_orbits.f k [a, b]) (pm i o) := by rw [hf.2.2.2, hg.2.2.2]; exact ev
    refine Ev.bind1 ev' (Ev.bind1 em ?_)
    have : ((m : Int) == 0) = mvalid a b := by
     by_cases z : m = 0
     ·rw [mvalid_yes (iff.2 ⟨hall, hm.1 z⟩), z]; rfl
     ·rw [mvalid_no (fun h => z (hm.2 (iff.1 h).2))]
      exact beq_eq_false_iff_ne.mpr (by omega)
    rw [this]
    exact Ev.now _
   | succ d ih =>
    intro i hi hall
    have hin : i < n := by omega
    have g1 := hg.2.2.1.1 i hin
    have b1 : rd b (i : Int) = (g i : Int) := by rw [hg.2.2.2, rd_pm hin]
    have b2 : rd b (g i : Int) = (g (g i) : Int) := by rw [hg.2.2.2, rd_pm g1]
    by_cases z1 : g i = i
    ·rw [mvalid_no (fun h => ((iff.1 h).1 i hin).1 z1)]
     exact Ev.step (f := fun _ => some false) (fun k => by rw [impl_MapValid.l0, if_pos (by omega), if_pos (by omega), if_pos (by omega), if_pos (by rw [b1, z1])]) (Ev.now _)
    ·by_cases z2 : g (g i) = i
     ·refine Ev.step (f := fun k => impl_MapValid.l0 k b (n : Int) ((i + 1 : Nat) : Int) a b) (fun k => by
       rw [impl_MapValid.l0, if_pos (by omega), if_pos (by omega), if_pos (by omega), if_neg (by rw [b1]; omega), b1, if_pos (by omega), if_pos (by omega), if_pos (by rw [b2, z2]), wrap_nat (by omega)]) (ih (i + 1) (by omega) ?_)
      intro j hj
      by_cases e : j = i
      ·subst e; exact ⟨z1, z2⟩
      ·exact hall j (by omega)
     ·rw [mvalid_no (fun h => z2 ((iff.1 h).1 i hin).2)]
      exact Ev.step (f := fun _ => some false) (fun k => by rw [impl_MapValid.l0, if_pos (by omega), if_pos (by omega), if_pos (by omega), if_neg (by rw [b1]; omega), b1, if_pos (by omega), if_pos (by omega), if_neg (by rw [b2]; omega)]) (Ev.now _)
  exact loop n 0 (by omega) (fun j hj => by omega)
 ·have no : ¬ mapAt a b := fun h => c (mapAt_both h)
  refine Ev.bind1 (implValid_ev a) ?_
  by_cases c1 : impl_PermValid.validB a = true
  ·refine Ev.pos c1 (Ev.bind1 (implValid_ev b) ?_)
   by_cases c2 : impl_PermValid.validB b = true
   ·refine Ev.pos c2 ?_
    have : ((a.length : Int) != (b.length : Int)) = true := by
     simp only [bne_iff_ne, ne_eq]
     intro e
     apply c
     unfold both
     have : a.length = b.length := by omega
     simp [c1, c2, this]
    rw [this]; exact bad no
   ·exact Ev.neg c2 (bad no)
  ·exact Ev.neg c1 (bad no)

theorem specMapValid_ev {a b : List Int} (ha : a.length ≤ 4294967296) (hb : b.length ≤ 4294967296) : Ev (fun k => spec_MapValid.f k a b) (mvalid a b) := by
 unfold spec_MapValid.f
 refine Ev.bind1 (l1Both_ev ha hb) ?_
 by_cases c : both a b = true
 ·obtain ⟨n, f, g, hf, hg⟩ := (both_iff a b).1 c
  have h12 := hf.2.1
  have lf := isPerm_len hf
  have lg := isPerm_len hg
  obtain ⟨o, ho, _⟩ := implOrbits_ex (by omega) hf.1 hf.2.2.1 hg.2.2.1
  have ev := specOrbits_ev (by omega) hf.2.2.1 hg.2.2.1 ho
  have iff := mapAt_iff hf hg ho
  refine Ev.pos c ?_
  have last : (∀ j, j < n → g j ≠ j ∧ g (g j) = j) → ∀ d i, i + d = n → (∀ j, j < i → o j = 0) → Ev (fun k => spec_MapValid.l1 k (pm n o) (i : Int)) (mvalid a b) := by
   intro hall d
   induction d with
   | zero =>
    intro i hi h0
    have ei : i = n := by omega
    subst ei
    rw [mvalid_yes (iff.2 ⟨hall, h0⟩)]
    exact Ev.step (f := fun _ => some true) (fun k => by rw [spec_MapValid.l1, if_neg (by rw [pm_length]; omega)]) (Ev.now _)
   | succ d ih =>
    intro i hi h0
    have hin : i < n := by omega
    by_cases z : o i = 0
    ·refine Ev.step (f := fun k => spec_MapValid.l1 k (pm n o) ((i + 1 : Nat) : Int)) (fun k => by
      rw [spec_MapValid.l1, if_pos (by rw [pm_length]; omega), if_pos (by omega), if_pos (by rw [rd_pm hin, z]; rfl), wrap_nat (by omega)]) (ih (i + 1) (by omega) ?_)
     intro j hj
     by_cases e : j = i
     ·subst e; exact z
     ·exact h0 j (by omega)
    ·rw [mvalid_no (fun h => z ((iff.1 h).2 i hin))]
     exact Ev.step (f := fun _ => some false) (fun k => by rw [spec_MapValid.l1, if_pos (by rw [pm_length]; omega), if_pos (by omega), if_neg (by rw [rd_pm hin]; omega)]) (Ev.now _)
  have loop : ∀ d i, i + d = n → (∀ j, j < i → g j ≠ j ∧ g (g j) = j) → Ev (fun k => spec_MapValid.l0 k (i : Int) a b) (mvalid a b) := by
   intro d
   induction d with
   | zero =>
    intro i hi hall
    have ei : i = n := by omega
    subst ei
    refine Ev.step (fun k => by rw [spec_MapValid.l0]) (Ev.neg (by omega) ?_)
    have ev' : Ev (fun k => spec_l1Orbits.f k a b) (pm i o) := by rw [hf.2.2.2, hg.2.2.2]; exact ev
    exact Ev.bind1 ev' (last hall i 0 (by omega) (fun j hj => by omega))
   | succ d ih =>
    intro i hi hall
    have hin : i < n := by omega
    have g1 := hg.2.2.1.1 i hin
    have b1 : rd b (i : Int) = (g i : Int) := by rw [hg.2.2.2, rd_pm hin]
    have b2 : rd b (g i : Int) = (g (g i) : Int) := by rw [hg.2.2.2, rd_pm g1]
    by_cases z1 : g i = i
    ·rw [mvalid_no (fun h => ((iff.1 h).1 i hin).1 z1)]
     exact Ev.step (f := fun _ => some false) (fun k => by rw [spec_MapValid.l0, if_pos (by omega), if_pos (by omega), if_pos (by rw [b1, z1])]) (Ev.now _)
    ·by_cases z2 : g (g i) = i
     ·refine Ev.step (f := fun k => spec_MapValid.l0 k ((i + 1 : Nat) : Int) a b) (fun k => by
       rw [spec_MapValid.l0, if_pos (by omega), if_pos (by omega), if_neg (by rw [b1]; omega), b1, if_pos (by omega), if_pos (by omega), if_pos (by rw [b2, z2]), wrap_nat (by omega)]) (ih (i + 1) (by omega) ?_)
      intro j hj
      by_cases e : j = i
      ·subst e; exact ⟨z1, z2⟩
      ·exact hall j (by omega)
     ·rw [mvalid_no (fun h => z2 ((iff.1 h).1 i hin).2)]
      exact Ev.step (f := fun _ => some false) (fun k => by rw [spec_MapValid.l0, if_pos (by omega), if_pos (by omega), if_neg (by rw [b1]; omega), b1, if_pos (by omega), if_pos (by omega), if_neg (by rw [b2]; omega)]) (Ev.now _)
  exact loop n 0 (by omega) (fun j hj => by omega)
 ·rw [mvalid_no fun h => c (mapAt_both h)]
  exact Ev.neg c (Ev.now _)

/-- the names so far: a point's place in the order, or -1 -/
def nm (n : Nat) (o : List Nat) : List Int := (List.range n).map fun d => if d ∈ o then ((o.idxOf d : Nat) : Int) else -1

theorem nm_len (n : Nat) (o : List Nat) : (nm n o).length = n := by simp [nm]

theorem nm_rd {n d : Nat} (o : List Nat) (h : d < n) : rd (nm n o) (d : Int) = if d ∈ o then ((o.idxOf d : Nat) : Int) else -1 := by
 rw [rd_get (by rw [nm_len]; exact h)]; simp [nm]

theorem nm_put {n d : Nat} {o : List Nat} (h : d < n) (hd : d ∉ o) : (nm n o).set d (o.length : Int) = nm n (o ++ [d]) := by
 refine List.ext_getElem (by simp [nm_len]) fun i h1 h2 => ?_
 rw [List.getElem_set]
 simp only [nm, List.getElem_map, List.getElem_range]
 have hi : i < n := by simpa [nm_len] using h2
 by_cases c : d = i
 ·subst c
  rw [if_pos rfl, if_pos (by simp), List.idxOf_append, if_neg hd]
  simp
 ·rw [if_neg c]
  by_cases m : i ∈ o
  ·rw [if_pos m, if_pos (by simp [m]), List.idxOf_append, if_pos m]
  ·rw [if_neg m, if_neg (by simp [m]; omega)]

theorem ints_snoc (o : List Nat) (d : Nat) : ints o ++ [(d : Int)] = ints (o ++ [d]) := by simp [ints]

theorem nm_one {n r : Nat} (h : r < n) : (List.replicate n (-1 : Int)).set r 0 = nm n [r] := by
 have e : List.replicate n (-1 : Int) = nm n [] := by
  refine List.ext_getElem (by simp [nm_len]) fun i h1 h2 => ?_
  simp [nm]
 rw [e]
 exact nm_put (o := []) h (by simp)

theorem nm_name {n : Nat} {f g : Nat → Nat} (hf : Bij n f) (hg : Bij n g) {r : Nat} (hr : r < n) (hc : ∀ x, x < n → conn n f g r x) : nm n (bord f g r n) = pm n (name n f g r) := by
 have h := (bord_full hf hg hr hc).2
 unfold nm pm
 refine List.map_congr_left fun x hx => ?_
 rw [if_pos (h x (by simpa using hx))]; rfl

theorem rd_two0 (x y : Int) : rd [x, y] ((0 : Nat) : Int) = x := rfl

theorem rd_two1 (x y : Int) : rd [x, y] ((1 : Nat) : Int) = y := rfl

theorem implNames_one {n : Nat} {a b : List Int} {o : List Nat} {y : List Int} {d : Nat} {i j : Nat} {R : List Int} (hd : d < n) (hn : n ≤ 1000) (ho : o.length ≤ 2000) (hy : y.length = 2) (hj : j < 2) (e : rd y (j : Int) = (d : Int))
 (k : Ev (fun k => impl_namesFrom.l2 k (nm n (put o d)) (ints (put o d)) (i : Int) y 2 ((j + 1 : Nat) : Int) a b) R) : Ev (fun k => impl_namesFrom.l2 k (nm n o) (ints o) (i : Int) y 2 (j : Int) a b) R := by
 refine Ev.step (fun k => by rw [impl_namesFrom.l2]) ?_
 refine Ev.pos (by omega) (Ev.pos (by omega) (Ev.pos (by omega) ?_))
 rw [e]
 refine Ev.pos (by omega) (Ev.pos (by rw [nm_len]; omega) ?_)
 rw [nm_rd o hd, wrap_nat (by omega)]
 by_cases c : d ∈ o
 ·rw [if_pos c]
  have : put o d = o := by unfold put; rw [if_pos c]
  rw [this] at k
  exact Ev.neg (by omega) k
 ·rw [if_neg c]
  have : put o d = o ++ [d] := by unfold put; rw [if_neg c]
  rw [this, ← nm_put hd c, ← ints_snoc] at k
  refine Ev.pos (by omega) (Ev.pos (by rw [ints_len]; omega) ?_)
  rw [ints_len, Int.toNat_natCast]
  exact k

theorem bord_next {f g : Nat → Nat} {r i : Nat} (h : i < (bord f g r i).length) : bord f g r (i + 1) = put (put (bord f g r i) (f (bord f g r i)[i])) (g (bord f g r i)[i]) := by
 show (match (bord f g r i)[i]? with
  | none => bord f g r i
  | some x => bstep f g (bord f g r i) x) = _
 rw [List.getElem?_eq_getElem h]; rfl

theorem put_len (o : List Nat) (d : Nat) : (put o d).length ≤ o.length + 1 := by
 unfold put; split
 ·omega
 ·simp

theorem implNames_ev {n : Nat} {f g : Nat → Nat} (hn : n ≤ 1000) (hf : Bij n f) (hg : Bij n g) {r : Nat} (hr : r < n) (hc : ∀ x, x < n → conn n f g r x) : Ev (fun k => impl_namesFrom.f k (pm n f) (pm n g) (r : Int)) (pm n (name n f g r)) := by
 have order : ∀ d i, i + d = n → Ev (fun k => impl_namesFrom.l1 k (nm n (bord f g r i)) (ints (bord f g r i)) (i : Int) (pm n f) (pm n g)) (pm n (name n f g r)) := by
  intro d
  induction d with
  | zero =>
   intro i hi
   have ei : i = n := by omega
   subst ei
   rw [← nm_name hf hg hr hc]
   exact Ev.step (f := fun _ => some (nm i (bord f g r i))) (fun k => by rw [impl_namesFrom.l1, if_neg (by rw [ints_len, (bord_full hf hg hr hc).1]; omega)]) (Ev.now _)
  | succ d ih =>
   intro i hi
   have hin : i < n := by omega
   have hl := bord_alive hf hg hr hc i hin
   have hx : (bord f g r i)[i] < n := bord_lt hf.1 hg.1 hr i _ (List.getElem_mem hl)
   have le := bord_len_le hf.1 hg.1 hr i
   have next := bord_next (f := f) (g := g) (r := r) hl
   generalize hX : (bord f g r i)[i] = x at hx next
   have e : rd (ints (bord f g r i)) (i : Int) = (x : Int) := by rw [ints_rd hl, hX]
   have f1 := hf.1 x hx
   have g1 := hg.1 x hx
   refine Ev.step (fun k => by rw [impl_namesFrom.l1]) ?_
   refine Ev.pos (by rw [ints_len]; omega) (Ev.pos (by omega) ?_)
   rw [e]
   refine Ev.pos (by omega) (Ev.pos (by rw [pm_length]; omega) (Ev.pos (by rw [pm_length]; omega) (Ev.some1 ?_)))
   rw [rd_pm hx, rd_pm hx]
   refine implNames_one (y := [(f x : Int), (g x : Int)]) (j := 0) f1 hn (by omega) rfl (by omega) (rd_two0 _ _) ?_
   have pl := put_len (bord f g r i) (f x)
   refine implNames_one (y := [(f x : Int), (g x : Int)]) (j := 1) g1 (by omega) (by omega) rfl (by omega) (rd_two1 _ _) ?_
   rw [← next]
   exact Ev.step (f := fun k => impl_namesFrom.l1 k (nm n (bord f g r (i + 1))) (ints (bord f g r (i + 1))) ((i + 1 : Nat) : Int) (pm n f) (pm n g)) (fun k => by rw [impl_namesFrom.l2, if_neg (by omega), wrap_nat (by omega)]) (ih (i + 1) (by omega))
 have init : ∀ d i (s : List Int), i + d = n → s.length = n → (∀ j, j < i → rd s (j : Int) = -1) → Ev (fun k => impl_namesFrom.l0 k (r : Int) s (n : Int) (i : Int) (pm n f) (pm n g)) (pm n (name n f g r)) := by
  intro d
  induction d with
  | zero =>
   intro i s hi hs hall
   have es : s = List.replicate n (-1) := by
    refine List.ext_getElem (by simp [hs]) fun j h1 h2 => ?_
    rw [← rd_get h1, hall j (by omega)]; simp
   refine Ev.step (f := fun k => impl_namesFrom.l1 k (nm n (bord f g r 0)) (ints (bord f g r 0)) ((0 : Nat) : Int) (pm n f) (pm n g)) (fun k => by
    rw [impl_namesFrom.l0, if_neg (by omega), if_pos (by omega), if_pos (by omega), es, Int.toNat_natCast, nm_one hr]; rfl) (order n 0 (by omega))
  | succ d ih =>
   intro i s hi hs hall
   refine Ev.step (f := fun k => impl_namesFrom.l0 k (r : Int) (s.set i (-1)) (n : Int) ((i + 1 : Nat) : Int) (pm n f) (pm n g)) (fun k => by
    rw [impl_namesFrom.l0, if_pos (by omega), if_pos (by omega), if_pos (by omega), Int.toNat_natCast, wrap_nat (by omega)]) (ih (i + 1) _ (by omega) (by simp [hs]) ?_)
   intro j hj
   rw [rd_set (by omega)]
   by_cases c : i = j
   ·rw [if_pos c]
   ·rw [if_neg c]; exact hall j (by omega)
 unfold impl_namesFrom.f
 refine Ev.pos (by omega) (Ev.pos (by rw [pm_length]; omega) (Ev.some1 ?_))
 simp only [pm_length, List.length_replicate, Int.toNat_natCast]
 exact init n 0 _ (by omega) (by simp) (fun j hj => by omega)

theorem implRenamed_ev {n : Nat} {f s g : Nat → Nat} (hn : n ≤ 1000) (hf : Bij n f) (hs : Bij n s) (hg : Bij n g) : Ev (fun k => impl_renamed.f k (pm n f) (pm n s) (pm n g)) (pm n (conj n g f), pm n (conj n g s)) := by
 unfold impl_renamed.f
 exact Ev.bind1 (back_ev hn hg) (Ev.bind1 (mul_ev hn (finv_bij hg).1) (Ev.bind1 (mul_ev hn (comp_bij (finv_bij hg) hf).1) (Ev.bind1 (back_ev hn hg) (Ev.bind1 (mul_ev hn (finv_bij hg).1) (Ev.bind1 (mul_ev hn (comp_bij (finv_bij hg) hs).1) (Ev.now _))))))

/-- the form from the root r -/
def formR (n : Nat) (f g : Nat → Nat) (r : Nat) : List Int × List Int := (pm n (fT n f g r), pm n (fS n f g r))

theorem IsMp.le {n : Nat} {a b : List Int} {f g : Nat → Nat} (h : IsMp n a b f g) : a.length = n ∧ b.length = n ∧ 1 ≤ n ∧ n ≤ 12 := ⟨isPerm_len h.1, isPerm_len h.2.1, h.1.1, h.1.2.1⟩

theorem IsMp.conn {n : Nat} {a b : List Int} {f g : Nat → Nat} (h : IsMp n a b f g) {r : Nat} (hr : r < n) : ∀ x, x < n → conn n f g r x := by
 obtain ⟨_, _, _, o, ho, h0⟩ := h
 intro x hx
 have h1 := ho.conn r hr
 have h2 := ho.conn x hx
 rw [h0 r hr] at h1
 rw [h0 x hx] at h2
 exact conn_trans h1 (conn_symm h2)

theorem IsMp.names {n : Nat} {a b : List Int} {f g : Nat → Nat} (h : IsMp n a b f g) {r : Nat} (hr : r < n) : Ev (fun k => impl_namesFrom.f k a b (r : Int)) (pm n (name n f g r)) := by
 have l := h.le
 rw [h.1.2.2.2, h.2.1.2.2.2]
 exact implNames_ev (by omega) h.1.2.2.1 h.2.1.2.2.1 hr (h.conn hr)

theorem IsMp.name_bij {n : Nat} {a b : List Int} {f g : Nat → Nat} (h : IsMp n a b f g) {r : Nat} (hr : r < n) : Bij n (name n f g r) := Sm.name_bij h.1.2.2.1 h.2.1.2.2.1 hr (h.conn hr)

theorem IsMp.renamed {n : Nat} {a b : List Int} {f g : Nat → Nat} (h : IsMp n a b f g) {r : Nat} (hr : r < n) : Ev (fun k => impl_renamed.f k a b (pm n (name n f g r))) (formR n f g r) := by
 have l := h.le
 rw [h.1.2.2.2, h.2.1.2.2.2]
 exact implRenamed_ev (by omega) h.1.2.2.1 h.2.1.2.2.1 (h.name_bij hr)

theorem cmp_drop {a b : List Int} {i : Nat} (ha : i < a.length) (hb : i < b.length) : cmp (a.drop i) (b.drop i) = if a[i] < b[i] then -1 else if b[i] < a[i] then 1 else cmp (a.drop (i + 1)) (b.drop (i + 1)) := by
 rw [List.drop_eq_getElem_cons ha, List.drop_eq_getElem_cons hb]; rfl

theorem cmpInt_ev (x y : Int) : cmp_Compare_int.f x y = some (if x < y then -1 else if y < x then 1 else 0) := by
 unfold cmp_Compare_int.f cmp_isNaN_int.f
 simp
 by_cases c : x < y
 ·simp [c]
 ·by_cases d : y < x
  ·simp [c, d]
  ·simp [c, d]

theorem sliceCmp_ev {a b : List Int} (hl : a.length = b.length) (hn : a.length ≤ 1000) : Ev (fun k => slices_Compare_int_int.f k a b) (cmp a b) := by
 have loop : ∀ d i, i + d = a.length → Ev (fun k => slices_Compare_int_int.l0 k a b a (a.length : Int) (i : Int)) (cmp (a.drop i) (b.drop i)) := by
  intro d
  induction d with
  | zero =>
   intro i hi
   rw [List.drop_of_length_le (by omega), List.drop_of_length_le (by omega)]
   exact Ev.step (f := fun _ => some 0) (fun k => by rw [slices_Compare_int_int.l0, if_neg (by omega), if_neg (by omega)]) (Ev.now _)
  | succ d ih =>
   intro i hi
   have ha : i < a.length := by omega
   have hb : i < b.length := by omega
   rw [cmp_drop ha hb]
   refine Ev.step (fun k => by rw [slices_Compare_int_int.l0]) ?_
   refine Ev.pos (by omega) (Ev.pos (by omega) (Ev.pos (by omega) (Ev.neg (by omega) (Ev.pos (by omega) ?_))))
   rw [rd_get ha, rd_get hb, cmpInt_ev]
   refine Ev.some1 ?_
   by_cases c : a[i] < b[i]
   ·simp only [if_pos c]; exact Ev.neg (by omega) (Ev.now _)
   ·simp only [if_neg c]
    by_cases d : b[i] < a[i]
    ·simp only [if_pos d]; exact Ev.neg (by omega) (Ev.now _)
    ·simp only [if_neg d]
     rw [wrap_nat (by omega)]
     exact Ev.pos (by simp) (ih (i + 1) (by omega))
 unfold slices_Compare_int_int.f
 exact loop a.length 0 (by omega)

theorem implBefore_ev {p q : List Int × List Int} (h1 : p.1.length = q.1.length) (h2 : p.2.length = q.2.length) (n1 : p.1.length ≤ 1000) (n2 : p.2.length ≤ 1000) : Ev (fun k => impl_compareMaps.f k p.1 p.2 q.1 q.2) (cmp2 p q) := by
 unfold impl_compareMaps.f cmp2
 refine Ev.bind1 (sliceCmp_ev h1 n1) ?_
 by_cases c : cmp p.1 q.1 = 0
 ·rw [if_pos c]; exact Ev.pos c (Ev.bind1 (sliceCmp_ev h2 n2) (Ev.now _))
 ·rw [if_neg c]; exact Ev.neg c (Ev.now _)

def leastTo (n : Nat) (f g : Nat → Nat) : Nat → List Int × List Int
 | 0 => formR n f g 0
 | i + 1 => if cmp2 (formR n f g i) (leastTo n f g i) < 0 then formR n f g i else leastTo n f g i

theorem formR_len (n : Nat) (f g : Nat → Nat) (r : Nat) : (formR n f g r).1.length = n ∧ (formR n f g r).2.length = n := by simp [formR, pm_length]

theorem leastTo_len (n : Nat) (f g : Nat → Nat) (i : Nat) : (leastTo n f g i).1.length = n ∧ (leastTo n f g i).2.length = n := by
 induction i with
 | zero => exact formR_len n f g 0
 | succ i ih =>
  unfold leastTo; split
  ·exact formR_len n f g i
  ·exact ih

theorem leastTo_one (n : Nat) (f g : Nat → Nat) : leastTo n f g 1 = formR n f g 0 := by
 show (if _ then formR n f g 0 else formR n f g 0) = _
 split <;> rfl

theorem IsMp.implLeast {n : Nat} {a b : List Int} {f g : Nat → Nat} (h : IsMp n a b f g) : Ev (fun k => impl_leastForm.f k a b) (leastTo n f g n) := by
 have l := h.le
 have loop : ∀ d i, i + d = n → Ev (fun k => impl_leastForm.l0 k (n : Int) (i : Int) a b (leastTo n f g i).1 (leastTo n f g i).2) (leastTo n f g n) := by
  intro d
  induction d with
  | zero =>
   intro i hi
   have e : i = n := by omega
   subst e
   exact Ev.step (f := fun _ => some (leastTo i f g i)) (fun k => by rw [impl_leastForm.l0, if_neg (by omega)]) (Ev.now _)
  | succ d ih =>
   intro i hi
   have hin : i < n := by omega
   have fl := formR_len n f g i
   have ll := leastTo_len n f g i
   refine Ev.step (fun k => by rw [impl_leastForm.l0]) ?_
   refine Ev.pos (by omega) (Ev.bind1 (h.names hin) (Ev.bind1 (h.renamed hin) (Ev.bind1 (implBefore_ev (p := formR n f g i) (q := leastTo n f g i) (by omega) (by omega) (by omega) (by omega)) ?_)))
   rw [wrap_nat (by omega)]
   have := ih (i + 1) (by omega)
   by_cases c : cmp2 (formR n f g i) (leastTo n f g i) < 0
   ·have e : leastTo n f g (i + 1) = formR n f g i := by show (if _ then _ else _) = _; rw [if_pos c]
    rw [e] at this
    exact Ev.pos c this
   ·have e : leastTo n f g (i + 1) = leastTo n f g i := by show (if _ then _ else _) = _; rw [if_neg c]
    rw [e] at this
    exact Ev.neg c this
 unfold impl_leastForm.f
 rw [l.1]
 exact Ev.bind1 (h.names (r := 0) (by omega)) (Ev.bind1 (h.renamed (by omega)) (loop n 0 (by omega)))

theorem IsMp.faces {n : Nat} {a b : List Int} {f g : Nat → Nat} (h : IsMp n a b f g) : Ev (fun k => impl_mul.f k b a) (pm n fun i => f (g i)) := by
 have h12 := h.1.2.1
 rw [h.1.2.2.2, h.2.1.2.2.2]
 exact mul_ev (by omega) h.2.1.2.2.1.1

theorem IsMp.faces' {n : Nat} {a b : List Int} {f g : Nat → Nat} (h : IsMp n a b f g) : Ev (fun k => spec_l2Faces.f k a b) (pm n fun i => f (g i)) := by
 have h12 := h.1.2.1
 unfold spec_l2Faces.f
 rw [h.1.2.2.2, h.2.1.2.2.2]
 exact Ev.bind1 (l1Mul_ev (by omega) h.2.1.2.2.1.1) (Ev.now _)

theorem IsMp.face_bij {n : Nat} {a b : List Int} {f g : Nat → Nat} (h : IsMp n a b f g) : Bij n fun i => f (g i) := comp_bij h.2.1.2.2.1 h.1.2.2.1

def genusN (x y z : Int) : Int := wrap64 (Int.tdiv (wrap64 ((wrap64 ((wrap64 (2 - x)) + y)) - z)) 2)

theorem genus_list {x y z : Int} {a b : List Int} (ec : Ev (fun k => spec_l2Counts.f k a b) [x, y, z]) : Ev (fun k => spec_l2Genus.f k a b) (genusN x y z) := by
 have r0 : rd [x, y, z] 0 = x := rfl
 have r1 : rd [x, y, z] 1 = y := rfl
 have r2 : rd [x, y, z] 2 = z := rfl
 unfold spec_l2Genus.f
 refine Ev.bind1 ec (Ev.pos (by simp) (Ev.pos (by simp) (Ev.pos (by simp) ?_)))
 rw [r0, r1, r2]
 exact Ev.now (genusN x y z)

theorem genus_impl {n : Nat} {f g : Nat → Nat} {a b : List Int} (h1 : Ev (fun k => impl_cyclesOf.f k a) (cycsL n f)) (h2 : Ev (fun k => impl_mul.f k b a) (pm n g)) (h3 : Ev (fun k => impl_cyclesOf.f k (pm n g)) (cycsL n g)) : Ev (fun k => impl_genusOf.f k a b) (genusN ((cycsL n f).length : Int) (wrap64 ((b.length : Int) / 2)) ((cycsL n g).length : Int)) := by
 unfold impl_genusOf.f
 refine Ev.bind1 h1 (Ev.bind1 h2 (Ev.bind1 h3 ?_))
 exact Ev.now (genusN ((cycsL n f).length : Int) (wrap64 ((b.length : Int) / 2)) ((cycsL n g).length : Int))

theorem genus_both {a b : List Int} (ha : a.length ≤ 1048576) (hb : b.length ≤ 1048576) : ∃ r : Int, Ev (fun k => spec_MapGenus.f k a b) r ∧ Ev (fun k => impl_MapGenus.f k a b) r := by
 by_cases c : mvalid a b = true
 ·obtain ⟨n, f, g, h⟩ := (mvalid_iff a b).1 c
  have l := h.le
  have cf : Ev (fun k => impl_cyclesOf.f k a) (cycsL n f) := by rw [h.1.2.2.2]; exact implCycles_ev (by omega) h.1.2.2.1
  have cf' : Ev (fun k => spec_l1Cycles.f k a) (cycsL n f) := by rw [h.1.2.2.2]; exact specCycles_ev (by omega) h.1.2.2.1
  have cF := implCycles_ev (n := n) (by omega) h.face_bij
  have cF' := specCycles_ev (n := n) (by omega) h.face_bij
  have ec : Ev (fun k => spec_l2Counts.f k a b) [((cycsL n f).length : Int), wrap64 ((b.length : Int) / 2), ((cycsL n fun i => f (g i)).length : Int)] := by
   unfold spec_l2Counts.f
   exact Ev.bind1 cf' (Ev.bind1 h.faces' (Ev.bind1 cF' (Ev.now _)))
  have e1 := genus_list ec
  have e2 := genus_impl cf h.faces cF
  generalize genusN ((cycsL n f).length : Int) (wrap64 ((b.length : Int) / 2)) ((cycsL n fun i => f (g i)).length : Int) = v at e1 e2
  exact ⟨v, Ev.bind1 (specMapValid_ev (by omega) (by omega)) (Ev.pos c (Ev.bind1 e1 (Ev.now _))), Ev.bind1 (implMapValid_ev a b) (Ev.pos c (Ev.bind1 e2 (Ev.now _)))⟩
 ·exact ⟨-1, Ev.bind1 (specMapValid_ev (by omega) (by omega)) (Ev.neg c (Ev.now _)), Ev.bind1 (implMapValid_ev a b) (Ev.neg c (Ev.now _))⟩

def turnsTo (n : Nat) (f g : Nat → Nat) : Nat → Nat
 | 0 => 0
 | i + 1 => if cmp2 (formR n f g i) (formR n f g 0) = 0 then turnsTo n f g i + 1 else turnsTo n f g i

theorem turnsTo_le (n : Nat) (f g : Nat → Nat) (i : Nat) : turnsTo n f g i ≤ i := by
 induction i with
 | zero => exact Nat.le_refl _
 | succ i ih => unfold turnsTo; split <;> omega

theorem renameI {n : Nat} {a b c : List Int} {f g h : Nat → Nat} (m : IsMp n a b f g) (p : IsPerm n c h) : Ev (fun k => impl_MapRename.f k a b c) (pm n (conj n h f), pm n (conj n h g), true) := by
 have l := m.le
 have e : Ev (fun k => impl_renamed.f k a b c) (pm n (conj n h f), pm n (conj n h g)) := by
  rw [m.1.2.2.2, m.2.1.2.2.2, p.2.2.2]; exact implRenamed_ev (by omega) m.1.2.2.1 m.2.1.2.2.1 p.2.2.1
 exact Ev.bind1 (implMapValid_ev a b) (Ev.pos (mvalid_yes ⟨n, f, g, m⟩) (Ev.bind1 (implValid_ev c) (Ev.pos (isPerm_valid p) (Ev.pos (by rw [isPerm_len p, l.1]) (Ev.bind1 e (Ev.now _))))))

theorem IsMp.map {n : Nat} {a b : List Int} {f g : Nat → Nat} (h : IsMp n a b f g) : IsMap n f g := ⟨by have := h.1.1; omega, h.1.2.2.1, h.2.1.2.2.1, h.conn (by have := h.1.1; omega)⟩

theorem IsMp.ss {n : Nat} {a b : List Int} {f g : Nat → Nat} (h : IsMp n a b f g) : ∀ x, x < n → g (g x) = x := fun x hx => (h.2.2.1 x hx).2

theorem isMp_of {n : Nat} {f g : Nat → Nat} (h1 : 1 ≤ n) (h2 : n ≤ 12) (h : IsMap n f g) (gg : ∀ i, i < n → g i ≠ i ∧ g (g i) = i) : IsMp n (pm n f) (pm n g) f g :=
 ⟨⟨h1, h2, h.bt, rfl⟩, ⟨h1, h2, h.bs, rfl⟩, gg, fun _ => 0, ⟨fun x hx => ⟨rfl, rfl⟩, fun x hx => Nat.zero_le _, fun x hx => conn_symm (h.co x hx)⟩, fun x hx => rfl⟩

theorem IsMp.pm {n : Nat} {a b : List Int} {f g : Nat → Nat} (h : IsMp n a b f g) : a = Sm.pm n f ∧ b = Sm.pm n g := ⟨h.1.2.2.2, h.2.1.2.2.2⟩

theorem IsMp.dual {n : Nat} {a b : List Int} {f g : Nat → Nat} (h : IsMp n a b f g) : IsMp n (Sm.pm n fun i => f (g i)) b (fun i => f (g i)) g := by
 rw [h.pm.2]; exact isMp_of h.1.1 h.1.2.1 (dual_isMap h.map h.ss) h.2.2.1

theorem dualI {n : Nat} {a b : List Int} {f g : Nat → Nat} (h : IsMp n a b f g) : Ev (fun k => impl_MapDual.f k a b) (Sm.pm n (fun i => f (g i)), b, true) := by
 have l := h.le
 exact Ev.bind1 (implMapValid_ev a b) (Ev.pos (mvalid_yes ⟨n, f, g, h⟩) (Ev.bind1 h.faces (Ev.bind1 (clone_ev (by omega)) (Ev.now _))))

theorem dual_dual {n : Nat} {a b : List Int} {f g : Nat → Nat} (h : IsMp n a b f g) : (Sm.pm n fun i => (fun j => f (g j)) (g i)) = a := by
 rw [h.pm.1, pm_ext]
 intro i hi
 show f (g (g i)) = f i
 rw [h.ss i hi]

theorem mirror_isMap {n : Nat} {f g : Nat → Nat} (h : IsMap n f g) : IsMap n (finv n f) g :=
 ⟨h.pos, finv_bij h.bt, h.bs, fun x hx c hc => h.co x hx c fun y hy => ⟨by
  have := (hc (f y) (h.bt.1 y hy)).1
  rw [finv_left h.bt hy] at this
  exact this.symm, (hc y hy).2⟩⟩

theorem IsMp.mirror {n : Nat} {a b : List Int} {f g : Nat → Nat} (h : IsMp n a b f g) : IsMp n (Sm.pm n (finv n f)) b (finv n f) g := by
 rw [h.pm.2]; exact isMp_of h.1.1 h.1.2.1 (mirror_isMap h.map) h.2.2.1

theorem mirrorI {n : Nat} {a b : List Int} {f g : Nat → Nat} (h : IsMp n a b f g) : Ev (fun k => impl_MapMirror.f k a b) (Sm.pm n (finv n f), b, true) := by
 have l := h.le
 have bi : Ev (fun k => impl_back.f k a) (Sm.pm n (finv n f)) := by rw [h.pm.1]; exact back_ev (by omega) h.1.2.2.1
 exact Ev.bind1 (implMapValid_ev a b) (Ev.pos (mvalid_yes ⟨n, f, g, h⟩) (Ev.bind1 bi (Ev.bind1 (clone_ev (by omega)) (Ev.now _))))

theorem finv_finv {n : Nat} {f : Nat → Nat} (h : Bij n f) {i : Nat} (hi : i < n) : finv n (finv n f) i = f i := by
 have a1 := finv_spec (finv_bij h) hi
 have := (finv_spec h a1.1).2
 have e : f (finv n f (finv n (finv n f) i)) = f i := by rw [a1.2]
 rw [← e, this]

theorem mirror_mirror {n : Nat} {a b : List Int} {f g : Nat → Nat} (h : IsMp n a b f g) : Sm.pm n (finv n (finv n f)) = a := by
 rw [h.pm.1, pm_ext]
 intro i hi
 exact finv_finv h.1.2.2.1 hi

theorem conj_ss {n : Nat} {g h : Nat → Nat} (hh : Bij n h) (hg : Bij n g) (gg : ∀ i, i < n → g i ≠ i ∧ g (g i) = i) : ∀ i, i < n → conj n h g i ≠ i ∧ conj n h g (conj n h g i) = i := by
 intro i hi
 have fi := finv_spec hh hi
 have c1 : conj n h g i = h (g (finv n h i)) := rfl
 constructor
 ·rw [c1]
  intro e
  exact (gg _ fi.1).1 (hh.2 _ _ (hg.1 _ fi.1) fi.1 (by rw [e, fi.2]))
 ·rw [c1, conj_at hh (hg.1 _ fi.1), (gg _ fi.1).2, fi.2]

theorem IsMp.conj {n : Nat} {a b : List Int} {f g h : Nat → Nat} (m : IsMp n a b f g) (hh : Bij n h) : IsMp n (Sm.pm n (Sm.conj n h f)) (Sm.pm n (Sm.conj n h g)) (Sm.conj n h f) (Sm.conj n h g) :=
 isMp_of m.1.1 m.1.2.1 ((Iso.conj hh).isMap m.map) (conj_ss hh m.2.1.2.2.1 m.2.2.1)

theorem leastTo_is {n : Nat} (f g : Nat → Nat) : ∀ i, 1 ≤ i → i ≤ n → IsLeast i (Sm.form n f g) (leastTo n f g i) := by
 intro i
 induction i with
 | zero => intro h _; omega
 | succ i ih =>
  intro _ hi
  by_cases c : i = 0
  ·subst c
   rw [leastTo_one]
   refine ⟨⟨0, by omega, rfl⟩, fun r hr => ?_⟩
   have : r = 0 := by omega
   subst this
   show cmp2 (Sm.form n f g 0) (Sm.form n f g 0) ≤ 0
   rw [cmp2_self]; omega
  ·have h := ih (by omega) (by omega)
   obtain ⟨r, hr, er⟩ := h.has
   show IsLeast (i + 1) (Sm.form n f g) (if cmp2 (formR n f g i) (leastTo n f g i) < 0 then formR n f g i else leastTo n f g i)
   by_cases d : cmp2 (formR n f g i) (leastTo n f g i) < 0
   ·rw [if_pos d]
    refine ⟨⟨i, by omega, rfl⟩, fun q hq => ?_⟩
    by_cases e : q = i
    ·subst e
     show cmp2 (Sm.form n f g q) (Sm.form n f g q) ≤ 0
     rw [cmp2_self]; omega
    ·exact cmp2_le_trans (Int.le_of_lt d) (h.le q (by omega))
   ·rw [if_neg d]
    refine ⟨⟨r, by omega, er⟩, fun q hq => ?_⟩
    by_cases e : q = i
    ·subst e
     have := cmp2_anti (formR n f g q) (leastTo n f g q)
     show cmp2 (leastTo n f g q) (formR n f g q) ≤ 0
     omega
    ·exact h.le q (by omega)

theorem IsMp.least {n : Nat} {a b : List Int} {f g : Nat → Nat} (h : IsMp n a b f g) : IsLeast n (Sm.form n f g) (leastTo n f g n) := leastTo_is f g n h.1.1 (Nat.le_refl _)

theorem iso_least {n : Nat} {a b a' b' : List Int} {f g f' g' h : Nat → Nat} (m : IsMp n a b f g) (m' : IsMp n a' b' f' g') (i : Iso n f g f' g' h) : leastTo n f g n = leastTo n f' g' n := i.least m.map m.least m'.least

theorem sameI {n : Nat} {a b a' b' : List Int} {f g f' g' : Nat → Nat} (m : IsMp n a b f g) (m' : IsMp n a' b' f' g') : Ev (fun k => impl_MapSame.f k a b a' b') (cmp2 (leastTo n f g n) (leastTo n f' g' n) == 0) := by
 have l := m.le
 have l' := m'.le
 have ll := leastTo_len n f g n
 have ll' := leastTo_len n f' g' n
 unfold impl_MapSame.f
 refine Ev.bind1 (implMapValid_ev a b) (Ev.pos (mvalid_yes ⟨n, f, g, m⟩) (Ev.bind1 (implMapValid_ev a' b') (Ev.pos (mvalid_yes ⟨n, f', g', m'⟩) ?_)))
 have ne : ((a.length : Int) != (a'.length : Int)) = false := by rw [l.1, l'.1]; simp
 rw [ne]
 refine Ev.step (fun k => by rw [impl_MapSame.j0]) ?_
 exact Ev.neg (by simp) (Ev.bind1 m.implLeast (Ev.bind1 m'.implLeast (Ev.bind1 (implBefore_ev (by omega) (by omega) (by omega) (by omega)) (Ev.now _))))

theorem sameIso {n : Nat} {a b a' b' : List Int} {f g f' g' h : Nat → Nat} (m : IsMp n a b f g) (m' : IsMp n a' b' f' g') (i : Iso n f g f' g' h) : Ev (fun k => impl_MapSame.f k a b a' b') true := by
 have := sameI m m'
 rw [iso_least m m' i, cmp2_self] at this
 exact this

theorem leastI {n : Nat} {a b : List Int} {f g : Nat → Nat} (h : IsMp n a b f g) : Ev (fun k => impl_MapLeast.f k a b) ((leastTo n f g n).1, (leastTo n f g n).2, true) :=
 Ev.bind1 (implMapValid_ev a b) (Ev.pos (mvalid_yes ⟨n, f, g, h⟩) (Ev.bind1 h.implLeast (Ev.now _)))

theorem invol_per {n : Nat} {g : Nat → Nat} (hg : Bij n g) (gg : ∀ i, i < n → g i ≠ i ∧ g (g i) = i) {x : Nat} (hx : x < n) : per n g x = 2 :=
 per_eq hg hx (by omega) (gg x hx).2 (fun k h0 h1 e => by
  have : k = 1 := by omega
  subst this
  exact (gg x hx).1 e)

theorem sum_const {l : List Nat} {c : Nat} (h : ∀ x ∈ l, x = c) : l.sum = l.length * c := by
 induction l with
 | nil => simp
 | cons x t ih =>
  rw [List.sum_cons, ih (fun y hy => h y (by simp [hy])), h x (by simp), List.length_cons, Nat.succ_mul]; omega

theorem per_sum' {n : Nat} {f : Nat → Nat} (h : Bij n f) : ((mins n f).map (per n f)).sum = n := by
 have := flat_length h
 rw [List.length_flatten] at this
 unfold cycs at this
 rw [List.map_map] at this
 have e : (mins n f).map (List.length ∘ cyc n f) = (mins n f).map (per n f) := List.map_congr_left fun a _ => cyc_length n f a
 rw [e] at this
 exact this

theorem invol_cc {n : Nat} {g : Nat → Nat} (hg : Bij n g) (gg : ∀ i, i < n → g i ≠ i ∧ g (g i) = i) : cc n g * 2 = n := by
 have s := per_sum' hg
 rw [sum_const (c := 2) (fun x hx => by
  rw [List.mem_map] at hx
  obtain ⟨a, ha, rfl⟩ := hx
  exact invol_per hg gg (mem_mins.1 ha).1), List.length_map] at s
 exact s

/-- vertices, edges and faces: their numbers' sum is even -/
theorem parity {n : Nat} {a b : List Int} {f g : Nat → Nat} (h : IsMp n a b f g) : (cc n f + n / 2 + cc n fun i => f (g i)) % 2 = 0 := by
 have cg := invol_cc h.2.1.2.2.1 h.2.2.1
 have o1 := cc_odd h.1.2.2.1
 have o2 := cc_odd h.2.1.2.2.1
 have o3 := cc_odd h.face_bij
 rw [odd_comp h.2.1.2.2.1 h.1.2.2.1] at o3
 have l1 := cc_le n f
 have l2 := cc_le n g
 have l3 := cc_le n fun i => f (g i)
 cases e1 : odd n f <;> cases e2 : odd n g <;> rw [e1] at o1 <;> rw [e2] at o2 <;> rw [e1, e2] at o3 <;> simp at o1 o2 o3 <;> omega

def gen (n : Nat) (f g : Nat → Nat) : Int := Int.tdiv (2 - (cc n f : Int) + ((n / 2 : Nat) : Int) - (cc n (fun i => f (g i)) : Int)) 2

theorem gen_two {n : Nat} {a b : List Int} {f g : Nat → Nat} (h : IsMp n a b f g) : 2 * gen n f g = 2 - (cc n f : Int) + ((n / 2 : Nat) : Int) - (cc n (fun i => f (g i)) : Int) := by
 have p := parity h
 unfold gen
 have d : (2 : Int) ∣ (2 - (cc n f : Int) + ((n / 2 : Nat) : Int) - (cc n (fun i => f (g i)) : Int)) := by omega
 exact Int.mul_tdiv_cancel' d

theorem countsI {n : Nat} {a b : List Int} {f g : Nat → Nat} (h : IsMp n a b f g) : Ev (fun k => impl_MapCounts.f k a b) ([(cc n f : Int), ((n / 2 : Nat) : Int), (cc n (fun i => f (g i)) : Int)], true) := by
 have l := h.le
 have cf : Ev (fun k => impl_cyclesOf.f k a) (cycsL n f) := by rw [h.pm.1]; exact implCycles_ev (by omega) h.1.2.2.1
 have cF := implCycles_ev (n := n) (by omega) h.face_bij
 have w : wrap64 ((b.length : Int) / 2) = ((n / 2 : Nat) : Int) := by rw [wrap_in (by omega) (by omega)]; omega
 unfold impl_MapCounts.f
 refine Ev.bind1 (implMapValid_ev a b) (Ev.pos (mvalid_yes ⟨n, f, g, h⟩) (Ev.bind1 cf (Ev.bind1 h.faces (Ev.bind1 cF ?_))))
 rw [w, cycsL_length, cycsL_length]
 exact Ev.now _

theorem genusI {n : Nat} {a b : List Int} {f g : Nat → Nat} (h : IsMp n a b f g) : Ev (fun k => impl_MapGenus.f k a b) (gen n f g) := by
 have l := h.le
 have cf : Ev (fun k => impl_cyclesOf.f k a) (cycsL n f) := by rw [h.pm.1]; exact implCycles_ev (by omega) h.1.2.2.1
 have cF := implCycles_ev (n := n) (by omega) h.face_bij
 have e2 := genus_impl cf h.faces cF
 have w : wrap64 ((b.length : Int) / 2) = ((n / 2 : Nat) : Int) := by rw [wrap_in (by omega) (by omega)]; omega
 have l1 := cc_le n f
 have l3 := cc_le n fun i => f (g i)
 have ge : genusN ((cycsL n f).length : Int) (wrap64 ((b.length : Int) / 2)) ((cycsL n fun i => f (g i)).length : Int) = gen n f g := by
  rw [w, cycsL_length, cycsL_length]
  unfold genusN gen
  have a1 : wrap64 (2 - (cc n f : Int)) = 2 - (cc n f : Int) := wrap_in (by omega) (by omega)
  have a2 : wrap64 (2 - (cc n f : Int) + ((n / 2 : Nat) : Int)) = 2 - (cc n f : Int) + ((n / 2 : Nat) : Int) := wrap_in (by omega) (by omega)
  have a3 : wrap64 (2 - (cc n f : Int) + ((n / 2 : Nat) : Int) - (cc n (fun i => f (g i)) : Int)) = 2 - (cc n f : Int) + ((n / 2 : Nat) : Int) - (cc n (fun i => f (g i)) : Int) := wrap_in (by omega) (by omega)
  rw [a1, a2, a3]
  have t := gen_two h
  unfold gen at t
  exact wrap_in (by omega) (by omega)
 rw [ge] at e2
 exact Ev.bind1 (implMapValid_ev a b) (Ev.pos (mvalid_yes ⟨n, f, g, h⟩) (Ev.bind1 e2 (Ev.now _)))

theorem cc_dual {n : Nat} {a b : List Int} {f g : Nat → Nat} (h : IsMp n a b f g) : (cc n fun i => (fun j => f (g j)) (g i)) = cc n f :=
 (cc_congr h.1.2.2.1 (fun i hi => by show f i = f (g (g i)); rw [h.ss i hi])).symm

theorem cc_mirror {n : Nat} {f : Nat → Nat} (h : Bij n f) : cc n (finv n f) = cc n f := cc_inv h (finv_bij h) (fun x hx => finv_left h hx)

theorem cc_mirror_face {n : Nat} {a b : List Int} {f g : Nat → Nat} (h : IsMp n a b f g) : (cc n fun i => finv n f (g i)) = cc n fun i => f (g i) := by
 have hf := h.1.2.2.1
 have hg := h.2.1.2.2.1
 have hk : Bij n fun i => g (finv n f i) := comp_bij (finv_bij hf) hg
 have e1 : (cc n fun i => g (finv n f i)) = cc n fun i => f (g i) := cc_inv h.face_bij hk (fun x hx => by
  show g (finv n f (f (g x))) = x
  rw [finv_left hf (hg.1 x hx), h.ss x hx])
 have e2 : (cc n fun i => g (finv n f i)) = cc n fun i => finv n f (g i) := cc_conj (comp_bij hg (finv_bij hf)) hg hk (fun x hx => rfl)
 rw [← e2, e1]

theorem cc_iso {n : Nat} {f g f' g' k : Nat → Nat} (i : Iso n f g f' g' k) (hf : Bij n f) (hf' : Bij n f') : cc n f' = cc n f := cc_conj hf i.bij hf' i.et

theorem cc_iso_face {n : Nat} {f g f' g' k : Nat → Nat} (i : Iso n f g f' g' k) (hf : Bij n f) (hg : Bij n g) (hf' : Bij n f') (hg' : Bij n g') : (cc n fun x => f' (g' x)) = cc n fun x => f (g x) :=
 cc_conj (comp_bij hg hf) i.bij (comp_bij hg' hf') (fun x hx => by show f' (g' (k x)) = k (f (g x)); rw [i.es x hx, i.et _ (hg.1 x hx)])

theorem ev_uniq {α : Type} {g : Nat → Option α} {r s : α} (h : Ev g r) (k : Ev g s) : r = s := by
 obtain ⟨a, ha⟩ := h
 obtain ⟨b, hb⟩ := k
 have e1 := ha (a + b) (by omega)
 have e2 := hb (a + b) (by omega)
 rw [e1] at e2
 exact Option.some.inj e2

theorem rename_bad {a b c : List Int} (v : ¬ (mvalid a b = true ∧ impl_PermValid.validB c = true ∧ c.length = a.length)) : Ev (fun k => impl_MapRename.f k a b c) ([], [], false) := by
 refine Ev.bind1 (implMapValid_ev a b) ?_
 by_cases x : mvalid a b = true
 ·refine Ev.pos x (Ev.bind1 (implValid_ev c) ?_)
  by_cases y : impl_PermValid.validB c = true
  ·exact Ev.pos y (Ev.neg (fun e => v ⟨x, y, by omega⟩) (Ev.now _))
  ·exact Ev.neg y (Ev.now _)
 ·exact Ev.neg x (Ev.now _)

theorem sameInts_self {a : List Int} (h : a.length ≤ 1000) : Ev (fun k => laws_sameInts.f k a a) true := by
 have e1 := sameInts_ev (a := a) (b := a) (by omega)
 have d1 : decide (a = a) = true := by simp
 rw [d1] at e1; exact e1

theorem turnsI {n : Nat} {a b : List Int} {f g : Nat → Nat} (h : IsMp n a b f g) : Ev (fun k => impl_MapTurns.f k a b) (turnsTo n f g n : Int) := by
 have l := h.le
 have f0 := formR_len n f g 0
 have loop : ∀ d i, i + d = n → Ev (fun k => impl_MapTurns.l0 k (turnsTo n f g i : Int) (n : Int) (i : Int) a b (formR n f g 0).1 (formR n f g 0).2) (turnsTo n f g n : Int) := by
  intro d
  induction d with
  | zero =>
   intro i hi
   have e : i = n := by omega
   subst e
   exact Ev.step (f := fun _ => some (turnsTo i f g i : Int)) (fun k => by rw [impl_MapTurns.l0, if_neg (by omega)]) (Ev.now _)
  | succ d ih =>
   intro i hi
   have hin : i < n := by omega
   have fl := formR_len n f g i
   have tl := turnsTo_le n f g i
   refine Ev.step (fun k => by rw [impl_MapTurns.l0]) ?_
   refine Ev.pos (by omega) (Ev.bind1 (h.names hin) (Ev.bind1 (h.renamed hin) (Ev.bind1 (implBefore_ev (p := formR n f g i) (q := formR n f g 0) (by omega) (by omega) (by omega) (by omega)) ?_)))
   rw [wrap_nat (by omega), wrap_nat (by omega)]
   have := ih (i + 1) (by omega)
   by_cases z : cmp2 (formR n f g i) (formR n f g 0) = 0
   ·have e : turnsTo n f g (i + 1) = turnsTo n f g i + 1 := by show (if _ then _ else _) = _; rw [if_pos z]
    rw [e] at this
    exact Ev.pos z this
   ·have e : turnsTo n f g (i + 1) = turnsTo n f g i := by show (if _ then _ else _) = _; rw [if_neg z]
    rw [e] at this
    exact Ev.neg z this
 unfold impl_MapTurns.f
 rw [l.1]
 exact Ev.bind1 (implMapValid_ev a b) (Ev.pos (mvalid_yes ⟨n, f, g, h⟩) (Ev.bind1 (h.names (r := 0) (by omega)) (Ev.bind1 (h.renamed (by omega)) (loop n 0 (by omega)))))

theorem turnsTo_count (n : Nat) (f g : Nat → Nat) : ∀ i, turnsTo n f g i = (List.range i).countP fun r => cmp2 (formR n f g r) (formR n f g 0) == 0
 | 0 => rfl
 | i + 1 => by
  rw [List.range_succ, List.countP_append, ← turnsTo_count n f g i]
  show (if _ then _ else _) = _
  by_cases z : cmp2 (formR n f g i) (formR n f g 0) = 0
  ·rw [if_pos z]; simp [z]
  ·rw [if_neg z]; simp [z]

theorem cmp_form {n : Nat} {f g : Nat → Nat} {r q : Nat} : (cmp2 (formR n f g r) (formR n f g q) == 0) = true ↔ same n f g r q := by
 rw [beq_iff_eq, cmp2_eq]
 exact form_same

theorem turns_iso {n : Nat} {a b a' b' : List Int} {f g f' g' k : Nat → Nat} (m : IsMp n a b f g) (m' : IsMp n a' b' f' g') (i : Iso n f g f' g' k) : turnsTo n f g n = turnsTo n f' g' n := by
 have hn : 0 < n := m.map.pos
 obtain ⟨z, hz, ez⟩ := surj i.bij 0 hn
 rw [turnsTo_count, turnsTo_count n f' g', countP_bij i.bij (fun r => cmp2 (formR n f' g' r) (formR n f' g' 0) == 0)]
 refine class_eq m.map hn hz _ _ (fun x hx => cmp_form) (fun x hx => ?_)
 show (cmp2 (formR n f' g' (k x)) (formR n f' g' 0) == 0) = true ↔ _
 have e1 : formR n f' g' (k x) = formR n f g x := i.form m.map hx
 have e2 : formR n f' g' 0 = formR n f g z := by rw [← ez]; exact i.form m.map hz
 rw [e1, e2]
 exact cmp_form

theorem implMap_no {a b : List Int} (v : ¬ mvalid a b = true) : Ev (fun k => impl_MapCounts.f k a b) ([], false) ∧ Ev (fun k => impl_MapGenus.f k a b) (-1) ∧ Ev (fun k => impl_MapDual.f k a b) ([], [], false) ∧ Ev (fun k => impl_MapMirror.f k a b) ([], [], false) :=
 ⟨Ev.bind1 (implMapValid_ev a b) (Ev.neg v (Ev.now _)), Ev.bind1 (implMapValid_ev a b) (Ev.neg v (Ev.now _)), Ev.bind1 (implMapValid_ev a b) (Ev.neg v (Ev.now _)), Ev.bind1 (implMapValid_ev a b) (Ev.neg v (Ev.now _))⟩

/-- Of any two lists that are a map: its dual, its mirror and itself renamed lie on the same surface. -/
theorem FnMapWhole : laws_FnMapWhole.Pure := by
 intro a b z ha1 ha2 haw hb1 hb2 hbw hz1 hz2 hzw
 refine Ev.rounds ?_
 unfold laws_FnMapWhole.f
 have early : Ev (fun k => laws_FnMapWhole.j0 k a b z true) true := Ev.step (f := fun _ => some true) (fun k => by rw [laws_FnMapWhole.j0, if_pos rfl]) (Ev.now _)
 by_cases c : (a.length : Int) > 2147483647
 ·exact Ev.pos c early
 refine Ev.neg c ?_
 by_cases c2 : (b.length : Int) > 2147483647
 ·exact Ev.pos c2 early
 refine Ev.neg c2 ?_
 by_cases c3 : (z.length : Int) > 2147483647
 ·rw [decide_eq_true c3]; exact early
 rw [decide_eq_false c3]
 refine Ev.step (fun k => by rw [laws_FnMapWhole.j0]) (Ev.neg (by simp) (Ev.bind1 (implMapValid_ev a b) ?_))
 have sv := specMapValid_ev (a := a) (b := b) (by omega) (by omega)
 have v0 := implValid_ev [0]
 have v0t : impl_PermValid.validB [0] = true := by decide
 by_cases v : mvalid a b = true
 ·obtain ⟨n, f, g, m⟩ := (mvalid_iff a b).1 v
  have l := m.le
  have l1 := cc_le n f
  have l3 := cc_le n fun i => f (g i)
  have sg : Ev (fun k => spec_MapGenus.f k a b) (gen n f g) := by
   obtain ⟨r, e1, e2⟩ := genus_both (a := a) (b := b) (by omega) (by omega)
   obtain rfl := ev_uniq e2 (genusI m)
   exact e1
  refine Ev.bind1 (countsI m) (Ev.bind1 (genusI m) (Ev.bind1 sv (Ev.neg (by simp) (Ev.neg (by simp [v]) (Ev.bind1 sg (Ev.pos rfl (Ev.bind1 v0 ?_)))))))
  rw [v0t]
  refine Ev.step (fun k => by rw [laws_FnMapWhole.j1]) (Ev.neg (by simp) (Ev.bind1 (dualI m) (Ev.bind1 (mirrorI m) ?_)))
  have same1 := sameInts_self (a := [(cc n f : Int), ((n / 2 : Nat) : Int), (cc n (fun i => f (g i)) : Int)]) (by simp)
  have gt := gen_two m
  have wl : wrap64 (wrap64 ((cc n f : Int) - ((n / 2 : Nat) : Int)) + (cc n (fun i => f (g i)) : Int)) = wrap64 (2 - wrap64 (2 * gen n f g)) := by
   rw [wrap_in (n := (cc n f : Int) - ((n / 2 : Nat) : Int)) (by omega) (by omega), wrap_in (n := 2 * gen n f g) (by omega) (by omega)]
   congr 1; omega
  have dd := dualI m.dual
  rw [dual_dual m] at dd
  have mm := mirrorI m.mirror
  rw [mirror_mirror m] at mm
  have cd := countsI m.dual
  rw [cc_dual m] at cd
  have cm := countsI m.mirror
  rw [cc_mirror m.1.2.2.1, cc_mirror_face m] at cm
  have sa := sameInts_self (a := a) (by omega)
  have sb := sameInts_self (a := b) (by omega)
  have same2 := sameInts_self (a := [(cc n (fun i => f (g i)) : Int), ((n / 2 : Nat) : Int), (cc n f : Int)]) (by simp)
  obtain ⟨R, hR, e4, h4⟩ : ∃ R : List Int × List Int × Bool, Ev (fun k => impl_MapRename.f k a b z) R ∧ (R.2.2 = (impl_PermValid.validB z && decide (z.length = a.length))) ∧ (R.2.2 = true → Ev (fun k => laws_FnMapWhole.j4 k [(cc n f : Int), ((n / 2 : Nat) : Int), (cc n (fun i => f (g i)) : Int)] true false a b R.1 R.2.1) true) := by
   by_cases q : impl_PermValid.validB z = true ∧ z.length = a.length
   ·obtain ⟨h, p⟩ := (valid_iff z).1 q.1
    rw [q.2, l.1] at p
    refine ⟨_, renameI m p, by simp [q.1, q.2], fun _ => ?_⟩
    have hb := p.2.2.1
    have mp := m.conj hb
    have i : Iso n f g (conj n h f) (conj n h g) h := Iso.conj hb
    have cr := countsI mp
    rw [cc_iso i m.1.2.2.1 mp.1.2.2.1, cc_iso_face i m.1.2.2.1 m.2.1.2.2.1 mp.1.2.2.1 mp.2.1.2.2.1] at cr
    have lr := leastI mp
    rw [← iso_least m mp i] at lr
    have tr := turnsI mp
    rw [← turns_iso m mp i] at tr
    have len := leastTo_len n f g n
    refine Ev.step (fun k => by rw [laws_FnMapWhole.j4]) (Ev.neg (by simp) (Ev.pos rfl (Ev.bind1 cr (Ev.bind1 (leastI m) (Ev.bind1 lr (Ev.pos rfl (Ev.pos rfl (Ev.pos rfl (Ev.bind1 same1 (Ev.pos rfl (Ev.bind1 (sameIso m mp i) (Ev.pos rfl (Ev.bind1 (turnsI m) (Ev.bind1 tr (Ev.pos rfl (Ev.bind1 (sameInts_self (a := (leastTo n f g n).1) (by omega)) (Ev.pos rfl (Ev.bind1 (sameInts_self (a := (leastTo n f g n).2) (by omega)) (Ev.now _)))))))))))))))))))
   ·refine ⟨_, rename_bad fun e => q e.2, ?_, fun e => by cases e⟩
    by_cases q1 : impl_PermValid.validB z = true
    ·have : ¬ z.length = a.length := fun e => q ⟨q1, e⟩
     simp [q1, this]
    ·simp [q1]
  have j4 : Ev (fun k => laws_FnMapWhole.j4 k [(cc n f : Int), ((n / 2 : Nat) : Int), (cc n (fun i => f (g i)) : Int)] R.2.2 false a b R.1 R.2.1) true := by
   cases e : R.2.2 with
   | true => exact h4 e
   | false => exact Ev.step (f := fun _ => some true) (fun k => by rw [laws_FnMapWhole.j4, if_neg (by simp), if_neg (by simp)]) (Ev.now _)
  have j2 : Ev (fun k => laws_FnMapWhole.j2 k a b z [(cc n f : Int), ((n / 2 : Nat) : Int), (cc n (fun i => f (g i)) : Int)] R.2.2 false a b R.1 R.2.1 a b a b) true := by
   refine Ev.step (fun k => by rw [laws_FnMapWhole.j2]) (Ev.neg (by simp) (Ev.bind1 sa (Ev.pos rfl (Ev.bind1 sb (Ev.pos rfl (Ev.bind1 sa (Ev.pos rfl (Ev.bind1 sb ?_))))))))
   refine Ev.step (fun k => by rw [laws_FnMapWhole.j3]) (Ev.neg (by simp) (Ev.bind1 (implValid_ev z) ?_))
   by_cases p : impl_PermValid.validB z = true
   ·refine Ev.pos p ?_
    have : (R.2.2 != ((z.length : Int) == (a.length : Int))) = false := by
     rw [e4, p]
     by_cases q : z.length = a.length
     ·simp [q]
     ·have : ¬ (z.length : Int) = (a.length : Int) := by omega
      simp [q, this]
    rw [this]; exact j4
   ·refine Ev.neg p ?_
    have : (R.2.2 != false) = false := by rw [e4]; simp [p]
    rw [this]; exact j4
  refine Ev.bind1 hR (Ev.pos v (Ev.bind1 dd (Ev.bind1 mm (Ev.bind1 cd (Ev.bind1 cm ?_)))))
  refine Ev.pos rfl (Ev.pos rfl (Ev.pos rfl (Ev.pos rfl (Ev.pos rfl (Ev.pos rfl (Ev.pos rfl (Ev.pos (by simp) (Ev.pos (by simp) (Ev.pos (by simp) ?_)))))))))
  rw [show rd [(cc n f : Int), ((n / 2 : Nat) : Int), (cc n (fun i => f (g i)) : Int)] 0 = (cc n f : Int) from rfl, show rd [(cc n f : Int), ((n / 2 : Nat) : Int), (cc n (fun i => f (g i)) : Int)] 1 = ((n / 2 : Nat) : Int) from rfl, show rd [(cc n f : Int), ((n / 2 : Nat) : Int), (cc n (fun i => f (g i)) : Int)] 2 = (cc n (fun i => f (g i)) : Int) from rfl]
  exact Ev.pos wl (Ev.bind1 same1 (Ev.pos rfl (Ev.bind1 same2 j2)))
 ·obtain ⟨x1, x2, x3, x4⟩ := implMap_no v
  have vf : mvalid a b = false := by simpa using v
  have sg : Ev (fun k => spec_MapGenus.f k a b) (-1) := Ev.bind1 sv (Ev.neg v (Ev.now _))
  refine Ev.bind1 x1 (Ev.bind1 x2 (Ev.bind1 sv (Ev.neg (by simp) (Ev.neg (by simp [vf]) (Ev.bind1 sg (Ev.pos rfl (Ev.bind1 v0 ?_)))))))
  rw [v0t]
  refine Ev.step (fun k => by rw [laws_FnMapWhole.j1]) (Ev.neg (by simp) (Ev.bind1 x3 (Ev.bind1 x4 (Ev.bind1 (rename_bad fun e => v e.1) (Ev.neg v (Ev.pos rfl ?_))))))
  exact Ev.neg (by decide) (Ev.neg (by decide) (Ev.now _))
end Go.Proofs.Ytmjdmahgkidocaa.R
namespace Go.Proofs.Ytmjdmahgkidocaa.Pure
theorem FnMapWhole : Go.Proofs.Ytmjdmahgkidocaa.F.laws_FnMapWhole.Pure := Go.Proofs.Ytmjdmahgkidocaa.R.FnMapWhole
end Go.Proofs.Ytmjdmahgkidocaa.Pure
