/- Of any two lists that are permutations: signs multiply, types stay when renamed, and texts are read back. -/
import Derived.Test.YtieaplnngmgkeaaGreatDoorF0
import Derived.Test.YtieaplnngmgkeaaGreatDoorF1
import Derived.Test.YtieaplnngmgkeaaGreatDoorF10
import Derived.Test.YtieaplnngmgkeaaGreatDoorF11
import Derived.Test.YtieaplnngmgkeaaGreatDoorF16
import Derived.Test.YtieaplnngmgkeaaGreatDoorF17
import Derived.Test.YtieaplnngmgkeaaGreatDoorF18
import Derived.Test.YtieaplnngmgkeaaGreatDoorF19
import Derived.Test.YtieaplnngmgkeaaGreatDoorF2
import Derived.Test.YtieaplnngmgkeaaGreatDoorF22
import Derived.Test.YtieaplnngmgkeaaGreatDoorF27
import Derived.Test.YtieaplnngmgkeaaGreatDoorF28
import Derived.Test.YtieaplnngmgkeaaGreatDoorF29
import Derived.Test.YtieaplnngmgkeaaGreatDoorF3
import Derived.Test.YtieaplnngmgkeaaGreatDoorF30
import Derived.Test.YtieaplnngmgkeaaGreatDoorF4
import Derived.Test.YtieaplnngmgkeaaGreatDoorF5
import Derived.Test.YtieaplnngmgkeaaGreatDoorF6
import Derived.Test.YtieaplnngmgkeaaGreatDoorF7
import Derived.Test.YtieaplnngmgkeaaGreatDoorF8
import Derived.Test.YtieaplnngmgkeaaGreatDoorF9
set_option linter.unusedVariables false
set_option linter.unusedSimpArgs false
namespace Go.Proofs.YtieaplnngmgkeaaGreatDoor.Sm
open List
/-- f permutes the numbers below n. -/
def Bij (n : Nat) (f : Nat → Nat) : Prop := (∀ i, i < n → f i < n) ∧ (∀ i j, i < n → j < n → f i = f j → i = j)

/-- the list of a permutation -/
def pm (n : Nat) (f : Nat → Nat) : List Int := (List.range n).map (fun i => (f i : Int))

theorem pm_length (n : Nat) (f : Nat → Nat) : (pm n f).length = n := by simp [pm]

theorem pm_getD (n : Nat) (f : Nat → Nat) (i : Nat) (h : i < n) : (pm n f).getD i 0 = (f i : Int) := by
 simp [pm, List.getD, h]

theorem pm_ext {n : Nat} {f g : Nat → Nat} : pm n f = pm n g ↔ ∀ i, i < n → f i = g i := by
 constructor
 ·intro h i hi
  have := pm_getD n f i hi
  rw [h, pm_getD n g i hi] at this
  omega
 ·intro h
  unfold pm
  apply List.map_congr_left
  intro i hi
  rw [h i (by simpa using hi)]

theorem eq_pm (n : Nat) (f : Nat → Nat) (l : List Int) (hl : l.length = n) (h : ∀ i, i < n → l.getD i 0 = (f i : Int)) : l = pm n f := by
 apply List.ext_getElem
 ·rw [hl, pm_length]
 ·intro i h1 h2
  have := h i (by omega)
  have e := pm_getD n f i (by omega)
  simp only [List.getD_eq_getElem?_getD, List.getElem?_eq_getElem h1, Option.getD_some] at this
  simp only [List.getD_eq_getElem?_getD, List.getElem?_eq_getElem h2, Option.getD_some] at e
  rw [this, e]

/-- the permutation without its last point -/
def byp (n : Nat) (f : Nat → Nat) (i : Nat) : Nat := if f i = n then f n else f i

theorem byp_bij {n : Nat} {f : Nat → Nat} (h : Bij (n + 1) f) : Bij n (byp n f) := by
 obtain ⟨h1, h2⟩ := h
 constructor
 ·intro i hi
  unfold byp
  have a := h1 i (by omega)
  have b := h1 n (by omega)
  split
  ·rename_i e
   have : f n ≠ n := fun e2 => by have := h2 i n (by omega) (by omega) (by omega); omega
   omega
  ·omega
 ·intro i j hi hj e
  unfold byp at e
  by_cases e1 : f i = n <;> by_cases e2 : f j = n
  ·exact h2 i j (by omega) (by omega) (by omega)
  ·rw [if_pos e1, if_neg e2] at e
   have := h2 n j (by omega) (by omega) e; omega
  ·rw [if_neg e1, if_pos e2] at e
   have := h2 i n (by omega) (by omega) e; omega
  ·rw [if_neg e1, if_neg e2] at e
   exact h2 i j (by omega) (by omega) e

theorem surj {n : Nat} {f : Nat → Nat} (h : Bij n f) : ∀ y, y < n → ∃ x, x < n ∧ f x = y := by
 induction n generalizing f with
 | zero => intro y hy; omega
 | succ n ih =>
  have hb := ih (byp_bij h)
  obtain ⟨h1, h2⟩ := h
  intro y hy
  by_cases e : y = n
  ·subst e
   by_cases e1 : f y = y
   ·exact ⟨y, by omega, e1⟩
   ·have b := h1 y (by omega)
    obtain ⟨x, hx, e2⟩ := hb (f y) (by omega)
    unfold byp at e2
    split at e2
    ·rename_i e3; exact ⟨x, by omega, e3⟩
    ·have := h2 x y (by omega) (by omega) e2; omega
  ·obtain ⟨x, hx, e2⟩ := hb y (by omega)
   unfold byp at e2
   split at e2
   ·exact ⟨n, by omega, e2⟩
   ·exact ⟨x, by omega, e2⟩

/-- the inverse below n -/
def finv (n : Nat) (f : Nat → Nat) (y : Nat) : Nat := ((List.range n).find? (fun i => f i == y)).getD 0

theorem finv_spec {n : Nat} {f : Nat → Nat} (h : Bij n f) {y : Nat} (hy : y < n) : finv n f y < n ∧ f (finv n f y) = y := by
 obtain ⟨x, hx, e⟩ := surj h y hy
 unfold finv
 cases hf : (List.range n).find? (fun i => f i == y) with
 | none =>
  rw [List.find?_eq_none] at hf
  exact absurd (hf x (by simpa using hx)) (by simp [e])
 | some z =>
  have a := List.mem_of_find?_eq_some hf
  have b := List.find?_some hf
  simp at a b
  exact ⟨by simpa using a, by simpa using b⟩

theorem finv_left {n : Nat} {f : Nat → Nat} (h : Bij n f) {x : Nat} (hx : x < n) : finv n f (f x) = x := by
 have := finv_spec h (h.1 x hx)
 exact h.2 _ _ this.1 hx this.2

theorem finv_bij {n : Nat} {f : Nat → Nat} (h : Bij n f) : Bij n (finv n f) := by
 refine ⟨fun i hi => (finv_spec h hi).1, fun i j hi hj e => ?_⟩
 have a := (finv_spec h hi).2
 have b := (finv_spec h hj).2
 rw [e] at a
 omega

theorem comp_bij {n : Nat} {f g : Nat → Nat} (h : Bij n f) (k : Bij n g) : Bij n (fun i => g (f i)) :=
 ⟨fun i hi => k.1 _ (h.1 i hi), fun i j hi hj e => h.2 i j hi hj (k.2 _ _ (h.1 i hi) (h.1 j hj) e)⟩

theorem id_bij (n : Nat) : Bij n (fun i => i) := ⟨fun _ h => h, fun _ _ _ _ e => e⟩

/-- f done m times -/
def it (f : Nat → Nat) : Nat → Nat → Nat
 | 0, x => x
 | m + 1, x => f (it f m x)

theorem it_add (f : Nat → Nat) (a b x : Nat) : it f (a + b) x = it f a (it f b x) := by
 induction a with
 | zero => simp [it]
 | succ a ih => rw [Nat.succ_add]; simp [it, ih]

theorem it_lt {n : Nat} {f : Nat → Nat} (h : Bij n f) (m : Nat) {x : Nat} (hx : x < n) : it f m x < n := by
 induction m with
 | zero => exact hx
 | succ m ih => exact h.1 _ ih

theorem it_inj {n : Nat} {f : Nat → Nat} (h : Bij n f) (m : Nat) {x y : Nat} (hx : x < n) (hy : y < n) (e : it f m x = it f m y) : x = y := by
 induction m with
 | zero => exact e
 | succ m ih => exact ih (h.2 _ _ (it_lt h m hx) (it_lt h m hy) e)

theorem it_bij {n : Nat} {f : Nat → Nat} (h : Bij n f) (m : Nat) : Bij n (it f m) :=
 ⟨fun _ hi => it_lt h m hi, fun _ _ hi hj e => it_inj h m hi hj e⟩

/-- pigeonhole: more than n numbers below n: two are equal -/
theorem pigeon (n : Nat) (g : Nat → Nat) (h : ∀ i, i ≤ n → g i < n) : ∃ i j, i < j ∧ j ≤ n ∧ g i = g j := by
 induction n generalizing g with
 | zero => exact absurd (h 0 (by omega)) (by omega)
 | succ n ih =>
  by_cases c : ∃ i, i < n + 1 ∧ g i = g (n + 1)
  ·obtain ⟨i, hi, e⟩ := c; exact ⟨i, n + 1, hi, by omega, e⟩
  ·have c' : ∀ i, i < n + 1 → g i ≠ g (n + 1) := fun i hi e => c ⟨i, hi, e⟩
   obtain ⟨i, j, hij, hj, e⟩ := ih (fun i => if g i = n then g (n + 1) else g i) (fun i hi => by
    have a := h i (by omega)
    have b := h (n + 1) (by omega)
    have d := c' i (by omega)
    show (if g i = n then g (n + 1) else g i) < n
    split <;> omega)
   refine ⟨i, j, hij, by omega, ?_⟩
   have di := c' i (by omega)
   have dj := c' j (by omega)
   by_cases e1 : g i = n <;> by_cases e2 : g j = n
   ·omega
   ·rw [if_pos e1, if_neg e2] at e; omega
   ·rw [if_neg e1, if_pos e2] at e; omega
   ·rw [if_neg e1, if_neg e2] at e; exact e

theorem it_back {n : Nat} {f : Nat → Nat} (h : Bij n f) {x : Nat} (hx : x < n) : ∃ m, 0 < m ∧ m ≤ n ∧ it f m x = x := by
 obtain ⟨i, j, hij, hj, e⟩ := pigeon n (fun m => it f m x) (fun m _ => it_lt h m hx)
 refine ⟨j - i, by omega, by omega, ?_⟩
 have : it f (i + (j - i)) x = it f i (it f (j - i) x) := it_add ..
 rw [show i + (j - i) = j by omega] at this
 exact (it_inj h i hx (it_lt h _ hx) (e.trans this)).symm

/-- the least positive m with p m, below a bound; else 0 -/
def least (p : Nat → Bool) (n : Nat) : Nat := ((List.range n).find? (fun m => p (m + 1))).elim 0 (· + 1)

theorem find_range_some {n : Nat} {p : Nat → Bool} {m : Nat} (h : (List.range n).find? p = some m) : m < n ∧ p m = true ∧ ∀ k, k < m → p k = false := by
 induction n generalizing m with
 | zero => simp at h
 | succ n ih =>
  rw [List.range_succ, List.find?_append] at h
  cases e : (List.range n).find? p with
  | some z =>
   rw [e] at h; simp at h; subst h
   have := ih e
   exact ⟨by omega, this.2⟩
  | none =>
   rw [e] at h
   simp at h
   obtain ⟨h1, rfl⟩ := h
   refine ⟨by omega, h1, fun k hk => ?_⟩
   rw [List.find?_eq_none] at e
   simpa using e k (by simpa using hk)

theorem least_spec {p : Nat → Bool} {n m : Nat} (hm : 0 < m) (hn : m ≤ n) (h : p m = true) :
 0 < least p n ∧ least p n ≤ m ∧ p (least p n) = true ∧ ∀ k, 0 < k → k < least p n → p k = false := by
 unfold least
 cases e : (List.range n).find? (fun m => p (m + 1)) with
 | none =>
  rw [List.find?_eq_none] at e
  have := e (m - 1) (by simp; omega)
  rw [show m - 1 + 1 = m by omega] at this
  exact absurd h this
 | some z =>
  obtain ⟨h1, h2, h3⟩ := find_range_some e
  simp only [Option.elim_some]
  refine ⟨by omega, ?_, h2, fun k hk hk2 => ?_⟩
  ·apply Nat.le_of_not_lt
   intro hlt
   have := h3 (m - 1) (by omega)
   rw [show m - 1 + 1 = m by omega, h] at this
   cases this
  ·have := h3 (k - 1) (by omega)
   rwa [show k - 1 + 1 = k by omega] at this

/-- how long the cycle of x is -/
def per (n : Nat) (f : Nat → Nat) (x : Nat) : Nat := least (fun m => it f m x == x) n

theorem per_spec {n : Nat} {f : Nat → Nat} (h : Bij n f) {x : Nat} (hx : x < n) :
 0 < per n f x ∧ per n f x ≤ n ∧ it f (per n f x) x = x ∧ ∀ k, 0 < k → k < per n f x → it f k x ≠ x := by
 obtain ⟨m, h1, h2, h3⟩ := it_back h hx
 obtain ⟨a, b, c, d⟩ := least_spec (p := fun m => it f m x == x) (n := n) h1 h2 (by simpa using h3)
 refine ⟨a, by unfold per; omega, ?_, fun k hk hk2 => by simpa using d k hk hk2⟩
 have := eq_of_beq c
 exact this

theorem it_mul_per {n : Nat} {f : Nat → Nat} (h : Bij n f) {x : Nat} (hx : x < n) (q : Nat) : it f (per n f x * q) x = x := by
 induction q with
 | zero => rfl
 | succ q ih => rw [Nat.mul_succ, it_add, (per_spec h hx).2.2.1, ih]

theorem it_mod_per {n : Nat} {f : Nat → Nat} (h : Bij n f) {x : Nat} (hx : x < n) (m : Nat) : it f m x = it f (m % per n f x) x := by
 conv => lhs; rw [← Nat.mod_add_div m (per n f x)]
 rw [it_add, it_mul_per h hx]

theorem it_eq_iff {n : Nat} {f : Nat → Nat} (h : Bij n f) {x : Nat} (hx : x < n) (m : Nat) : it f m x = x ↔ per n f x ∣ m := by
 obtain ⟨a, b, c, d⟩ := per_spec h hx
 constructor
 ·intro e
  rw [it_mod_per h hx] at e
  apply Nat.dvd_of_mod_eq_zero
  apply Nat.eq_zero_of_not_pos
  intro hp
  exact d _ hp (Nat.mod_lt _ a) e
 ·rintro ⟨q, rfl⟩
  exact it_mul_per h hx q

theorem map_perm {n : Nat} {f : Nat → Nat} (h : Bij n f) : ((List.range n).map f).Perm (List.range n) := by
 rw [perm_iff_count]
 intro a
 have nd : ((List.range n).map f).Nodup := by
  unfold Nodup
  rw [pairwise_map]
  have := nodup_range (n := n)
  unfold Nodup at this
  rw [pairwise_iff_getElem] at this ⊢
  intro i j hi hj hij e
  have hi' : i < n := by simpa using hi
  have hj' : j < n := by simpa using hj
  simp only [getElem_range] at e
  have := h.2 i j hi' hj' e
  omega
 rw [nd.count, (nodup_range (n := n)).count]
 have : a ∈ (List.range n).map f ↔ a ∈ List.range n := by
  simp only [mem_map, mem_range]
  constructor
  ·rintro ⟨x, hx, rfl⟩; exact h.1 x hx
  ·intro ha; exact surj h a ha
 by_cases c : a ∈ List.range n
 ·rw [if_pos c, if_pos (this.2 c)]
 ·rw [if_neg c, if_neg (fun d => c (this.1 d))]

/-- the parity of a sum of bits -/
def xs (g : Nat → Bool) : List Nat → Bool
 | [] => false
 | a :: l => xor (g a) (xs g l)

theorem xs_append (g : Nat → Bool) (l r : List Nat) : xs g (l ++ r) = xor (xs g l) (xs g r) := by
 induction l with
 | nil => simp [xs]
 | cons a l ih => simp [xs, ih]

theorem xs_perm (g : Nat → Bool) {l r : List Nat} (h : l.Perm r) : xs g l = xs g r := by
 induction h with
 | nil => rfl
 | cons a _ ih => simp [xs, ih]
 | swap a b l => simp only [xs]; rw [← Bool.xor_assoc, ← Bool.xor_assoc, Bool.xor_comm (g b)]
 | trans _ _ h1 h2 => exact h1.trans h2

theorem xs_xor (g k : Nat → Bool) (l : List Nat) : xs (fun a => xor (g a) (k a)) l = xor (xs g l) (xs k l) := by
 induction l with
 | nil => rfl
 | cons a l ih =>
  simp only [xs, ih]
  cases g a <;> cases k a <;> simp

theorem xs_congr {g k : Nat → Bool} {l : List Nat} (h : ∀ a, a ∈ l → g a = k a) : xs g l = xs k l := by
 induction l with
 | nil => rfl
 | cons a l ih => simp only [xs]; rw [h a (by simp), ih (fun b hb => h b (by simp [hb]))]

theorem xs_map (g : Nat → Bool) (f : Nat → Nat) (l : List Nat) : xs g (l.map f) = xs (fun a => g (f a)) l := by
 induction l with
 | nil => rfl
 | cons a l ih => simp [xs, ih]

theorem xs_false {g : Nat → Bool} {l : List Nat} (h : ∀ a, a ∈ l → g a = false) : xs g l = false := by
 induction l with
 | nil => rfl
 | cons a l ih => simp only [xs]; rw [h a (by simp), ih (fun b hb => h b (by simp [hb]))]; rfl

/-- the parity over all pairs of a list, the earlier one first -/
def px (t : Nat → Nat → Bool) : List Nat → Bool
 | [] => false
 | a :: l => xor (xs (t a) l) (px t l)

theorem px_perm {t : Nat → Nat → Bool} (s : ∀ a b, t a b = t b a) {l r : List Nat} (h : l.Perm r) : px t l = px t r := by
 induction h with
 | nil => rfl
 | cons a h ih => simp only [px]; rw [ih, xs_perm _ h]
 | swap a b l =>
  simp only [px, xs]
  rw [s b a]
  cases t a b <;> cases xs (t a) l <;> cases xs (t b) l <;> cases px t l <;> rfl
 | trans _ _ h1 h2 => exact h1.trans h2

theorem px_xor (t u : Nat → Nat → Bool) (l : List Nat) : px (fun a b => xor (t a b) (u a b)) l = xor (px t l) (px u l) := by
 induction l with
 | nil => rfl
 | cons a l ih =>
  simp only [px, ih, xs_xor]
  cases xs (t a) l <;> cases xs (u a) l <;> cases px t l <;> cases px u l <;> rfl

theorem px_map (t : Nat → Nat → Bool) (f : Nat → Nat) (l : List Nat) : px t (l.map f) = px (fun a b => t (f a) (f b)) l := by
 induction l with
 | nil => rfl
 | cons a l ih => simp only [List.map_cons, px, ih, xs_map]

theorem px_congr {t u : Nat → Nat → Bool} {l : List Nat} (nd : l.Nodup) (h : ∀ a b, a ∈ l → b ∈ l → a ≠ b → t a b = u a b) : px t l = px u l := by
 induction l with
 | nil => rfl
 | cons a l ih =>
  simp only [px]
  rw [nodup_cons] at nd
  rw [ih nd.2 (fun x y hx hy e => h x y (by simp [hx]) (by simp [hy]) e), xs_congr (fun b hb => h a b (by simp) (by simp [hb]) (fun e => nd.1 (e ▸ hb)))]

theorem px_snoc (t : Nat → Nat → Bool) (l : List Nat) (a : Nat) : px t (l ++ [a]) = xor (px t l) (xs (fun b => t b a) l) := by
 induction l with
 | nil => simp [px, xs]
 | cons b l ih =>
  simp only [List.cons_append, px, xs, ih, xs_append]
  cases xs (t b) l <;> cases t b a <;> cases px t l <;> cases xs (fun b => t b a) l <;> rfl

/-- is the number of turned pairs odd? -/
def odd (n : Nat) (f : Nat → Nat) : Bool := px (fun a b => decide (f b < f a)) (List.range n)

theorem odd_id (n : Nat) : odd n (fun i => i) = false := by
 unfold odd
 induction n with
 | zero => rfl
 | succ n ih =>
  rw [List.range_succ, px_snoc, ih, xs_false]
  ·rfl
  ·intro a ha; simp at ha ⊢; omega

theorem odd_congr {n : Nat} {f g : Nat → Nat} (h : ∀ i, i < n → f i = g i) : odd n f = odd n g := by
 unfold odd
 apply px_congr nodup_range
 intro a b ha hb _
 rw [h a (by simpa using ha), h b (by simpa using hb)]

theorem odd_comp {n : Nat} {f g : Nat → Nat} (hf : Bij n f) (hg : Bij n g) : odd n (fun i => g (f i)) = xor (odd n f) (odd n g) := by
 have e1 : odd n (fun i => g (f i)) = px (fun a b => decide (g b < g a)) ((List.range n).map f) := by rw [px_map]; rfl
 have e2 : odd n f = px (fun a b => decide (b < a)) ((List.range n).map f) := by rw [px_map]; rfl
 have nd : ((List.range n).map f).Nodup := (map_perm hf).nodup_iff.2 nodup_range
 have hm : ∀ a, a ∈ (List.range n).map f → a < n := fun a ha => by simpa using (map_perm hf).mem_iff.1 ha
 let t : Nat → Nat → Bool := fun a b => xor (decide (g b < g a)) (decide (b < a))
 let u : Nat → Nat → Bool := fun a b => xor (decide (g (max a b) < g (min a b))) false
 have ht : ∀ a b, a < n → b < n → a ≠ b → t a b = u a b := by
  intro a b ha hb e
  have gi : g a ≠ g b := fun c => e (hg.2 a b ha hb c)
  show xor (decide (g b < g a)) (decide (b < a)) = xor (decide (g (max a b) < g (min a b))) false
  by_cases c : b < a
  ·rw [Nat.max_eq_left (by omega), Nat.min_eq_right (by omega)]
   by_cases d : g b < g a
   ·simp [c, d]; omega
   ·simp [c, d]; omega
  ·rw [Nat.max_eq_right (by omega), Nat.min_eq_left (by omega)]
   simp [c]
 have hs : ∀ a b, u a b = u b a := by intro a b; show xor _ false = xor _ false; rw [Nat.max_comm, Nat.min_comm]
 have e3 : px t ((List.range n).map f) = px t (List.range n) := by
  rw [px_congr (u := u) nd (fun a b ha hb e => ht a b (hm a ha) (hm b hb) e), px_perm hs (map_perm hf), ← px_congr nodup_range (fun a b ha hb e => ht a b (by simpa using ha) (by simpa using hb) e)]
 have e4 : px t (List.range n) = odd n g := by
  have := px_xor (fun a b => decide (g b < g a)) (fun a b => decide (b < a)) (List.range n)
  have i := odd_id n
  unfold odd at i
  rw [i] at this
  simpa [t, odd] using this
 have e5 : px t ((List.range n).map f) = xor (odd n (fun i => g (f i))) (odd n f) := by
  rw [e1, e2]
  exact px_xor (fun a b => decide (g b < g a)) (fun a b => decide (b < a)) _
 rw [e5, ] at e3
 rw [e4] at e3
 cases h1 : odd n (fun i => g (f i)) <;> cases h2 : odd n f <;> cases h3 : odd n g <;> rw [h1, h2, h3] at e3 <;> first | rfl | cases e3

/-- two points change places -/
def swp (a b i : Nat) : Nat := if i = a then b else if i = b then a else i

theorem swp_bij {n a b : Nat} (ha : a < n) (hb : b < n) : Bij n (swp a b) := by
 constructor
 ·intro i hi; unfold swp; split <;> (try split) <;> omega
 ·intro i j _ _ e; unfold swp at e; split at e <;> split at e <;> (try split at e) <;> (try split at e) <;> omega

theorem odd_adj (n : Nat) : odd (n + 2) (swp n (n + 1)) = true := by
 have h : ∀ k, k ≤ n → odd k (swp n (n + 1)) = false := by
  intro k hk
  rw [odd_congr (g := fun i => i), odd_id]
  intro i hi; unfold swp; rw [if_neg (by omega), if_neg (by omega)]
 have a := h n (by omega)
 unfold odd at a ⊢
 rw [List.range_succ, px_snoc, List.range_succ, px_snoc, a, xs_append, xs_false, xs_false]
 ·simp [xs, swp]
 ·intro i hi; simp at hi; unfold swp; simp; rw [if_neg (show ¬ i = n by omega), if_neg (show ¬ i = n + 1 by omega)]; omega
 ·intro i hi; simp at hi; unfold swp; simp; rw [if_neg (show ¬ i = n by omega), if_neg (show ¬ i = n + 1 by omega)]; omega

theorem odd_swp {n i : Nat} (h : i < n) : odd (n + 1) (swp i n) = true := by
 obtain ⟨m, rfl⟩ : ∃ m, n = m + 1 := ⟨n - 1, by omega⟩
 by_cases e : i = m
 ·subst e; exact odd_adj i
 ·have hs := swp_bij (n := m + 2) (a := i) (b := m) (by omega) (by omega)
  have ht := swp_bij (n := m + 2) (a := m) (b := m + 1) (by omega) (by omega)
  have e1 : ∀ j, j < m + 2 → (fun j => swp i m (swp m (m + 1) (swp i m j))) j = swp i (m + 1) j := by
   intro j hj
   show swp i m (swp m (m + 1) (swp i m j)) = swp i (m + 1) j
   by_cases c1 : j = i
   ·have a1 : swp i m j = m := by unfold swp; rw [if_pos c1]
    have a2 : swp m (m + 1) m = m + 1 := by unfold swp; rw [if_pos rfl]
    have a3 : swp i m (m + 1) = m + 1 := by unfold swp; rw [if_neg (by omega), if_neg (by omega)]
    have a4 : swp i (m + 1) j = m + 1 := by unfold swp; rw [if_pos c1]
    rw [a1, a2, a3, a4]
   by_cases c2 : j = m
   ·have a1 : swp i m j = i := by unfold swp; rw [if_neg c1, if_pos c2]
    have a2 : swp m (m + 1) i = i := by unfold swp; rw [if_neg (by omega), if_neg (by omega)]
    have a3 : swp i m i = m := by unfold swp; rw [if_pos rfl]
    have a4 : swp i (m + 1) j = j := by unfold swp; rw [if_neg c1, if_neg (by omega)]
    rw [a1, a2, a3, a4, c2]
   have a1 : swp i m j = j := by unfold swp; rw [if_neg c1, if_neg c2]
   rw [a1]
   by_cases c3 : j = m + 1
   ·have a2 : swp m (m + 1) j = m := by unfold swp; rw [if_neg c2, if_pos c3]
    have a3 : swp i m m = i := by unfold swp; rw [if_neg (by omega), if_pos rfl]
    have a4 : swp i (m + 1) j = i := by unfold swp; rw [if_neg c1, if_pos c3]
    rw [a2, a3, a4]
   ·have a2 : swp m (m + 1) j = j := by unfold swp; rw [if_neg c2, if_neg c3]
    have a4 : swp i (m + 1) j = j := by unfold swp; rw [if_neg c1, if_neg c3]
    rw [a2, a1, a4]
  have e2 := odd_comp hs (comp_bij ht hs)
  have e3 := odd_comp ht hs
  have e4 := odd_congr e1
  rw [← e4]
  show odd (m + 2) _ = true
  rw [e2, e3, odd_adj]
  cases odd (m + 2) (swp i m) <;> rfl

/-- is i the least of its cycle? -/
def isMin (n : Nat) (f : Nat → Nat) (i : Nat) : Bool := (List.range n).all fun k => decide (i ≤ it f k i)

/-- the number of cycles -/
def cc (n : Nat) (f : Nat → Nat) : Nat := ((List.range n).filter (isMin n f)).length

theorem isMin_iff {n : Nat} {f : Nat → Nat} (h : Bij n f) {i : Nat} (hi : i < n) : isMin n f i = true ↔ ∀ k, i ≤ it f k i := by
 unfold isMin
 rw [List.all_eq_true]
 constructor
 ·intro a k
  rw [it_mod_per h hi]
  have p := per_spec h hi
  have := a (k % per n f i) (by rw [mem_range]; have := Nat.mod_lt k p.1; omega)
  simpa using this
 ·intro a k _
  simpa using a k

theorem cc_le (n : Nat) (f : Nat → Nat) : cc n f ≤ n := by
 unfold cc
 have := List.length_filter_le (isMin n f) (List.range n)
 simpa using this

theorem byp_reach {n : Nat} {f : Nat → Nat} (h : Bij (n + 1) f) {i : Nat} (hi : i < n) (k : Nat) : ∃ k', it (byp n f) k i = it f k' i := by
 induction k with
 | zero => exact ⟨0, rfl⟩
 | succ k ih =>
  obtain ⟨k', e⟩ := ih
  show ∃ k', byp n f (it (byp n f) k i) = it f k' i
  rw [e]
  unfold byp
  by_cases c : f (it f k' i) = n
  ·rw [if_pos c]; exact ⟨k' + 2, by show f n = f (f (it f k' i)); rw [c]⟩
  ·rw [if_neg c]; exact ⟨k' + 1, rfl⟩

theorem reach_byp {n : Nat} {f : Nat → Nat} (h : Bij (n + 1) f) {i : Nat} (hi : i < n) (k : Nat) :
 (∃ k', it f k i = it (byp n f) k' i) ∨ (it f k i = n ∧ f n ≠ n ∧ ∃ k', f n = it (byp n f) k' i) := by
 have hb := byp_bij h
 induction k with
 | zero => exact .inl ⟨0, rfl⟩
 | succ k ih =>
  rcases ih with ⟨k', e⟩ | ⟨e1, e2, k', e3⟩
  ·have hz := it_lt hb k' hi
   by_cases c : f (it f k i) = n
   ·right
    have d : f n ≠ n := by
     intro d
     have := h.2 (it f k i) n (by omega) (by omega) (by omega)
     omega
    refine ⟨c, d, k' + 1, ?_⟩
    show f n = byp n f (it (byp n f) k' i)
    unfold byp at e ⊢
    rw [← e, if_pos c]
   ·left
    refine ⟨k' + 1, ?_⟩
    show f (it f k i) = byp n f (it (byp n f) k' i)
    rw [← e]
    show _ = byp n f (it f k i)
    unfold byp
    rw [if_neg c]
  ·left
   refine ⟨k', ?_⟩
   show f (it f k i) = _
   rw [e1]; exact e3

theorem isMin_byp {n : Nat} {f : Nat → Nat} (h : Bij (n + 1) f) {i : Nat} (hi : i < n) : isMin (n + 1) f i = isMin n (byp n f) i := by
 rw [Bool.eq_iff_iff, isMin_iff h (by omega), isMin_iff (byp_bij h) hi]
 constructor
 ·intro a k
  obtain ⟨k', e⟩ := byp_reach h hi k
  rw [e]; exact a k'
 ·intro a k
  rcases reach_byp h hi k with ⟨k', e⟩ | ⟨e, _, _⟩
  ·rw [e]; exact a k'
  ·omega

theorem it_fix {f : Nat → Nat} {x : Nat} (h : f x = x) (k : Nat) : it f k x = x := by
 induction k with
 | zero => rfl
 | succ k ih => show f (it f k x) = x; rw [ih, h]

theorem isMin_last {n : Nat} {f : Nat → Nat} (h : Bij (n + 1) f) : isMin (n + 1) f n = decide (f n = n) := by
 rw [Bool.eq_iff_iff, isMin_iff h (by omega)]
 constructor
 ·intro a
  have b := a 1
  have c := h.1 n (by omega)
  simp [it] at b ⊢
  omega
 ·intro a k
  rw [it_fix (by simpa using a)]; exact Nat.le_refl _

theorem cc_succ {n : Nat} {f : Nat → Nat} (h : Bij (n + 1) f) : cc (n + 1) f = cc n (byp n f) + (if f n = n then 1 else 0) := by
 unfold cc
 rw [List.range_succ, List.filter_append, List.length_append]
 congr 1
 ·rw [List.filter_congr (fun i hi => isMin_byp h (by simpa using hi))]
 ·simp only [List.filter_cons, List.filter_nil, isMin_last h]
  by_cases c : f n = n <;> simp [c]

theorem isMin_congr {n : Nat} {f g : Nat → Nat} (hf : Bij n f) (e : ∀ i, i < n → f i = g i) {i : Nat} (hi : i < n) : isMin n f i = isMin n g i := by
 have : ∀ k, it f k i = it g k i := by
  intro k
  induction k with
  | zero => rfl
  | succ k ih => show f (it f k i) = g (it g k i); rw [← ih, e _ (it_lt hf k hi)]
 unfold isMin
 congr 1; funext k; rw [this]

theorem cc_congr {n : Nat} {f g : Nat → Nat} (hf : Bij n f) (e : ∀ i, i < n → f i = g i) : cc n f = cc n g := by
 unfold cc
 rw [List.filter_congr (fun i hi => isMin_congr hf e (by simpa using hi))]

theorem cc_odd {n : Nat} {f : Nat → Nat} (h : Bij n f) : (n - cc n f) % 2 = (odd n f).toNat := by
 induction n generalizing f with
 | zero => rfl
 | succ n ih =>
  have hb := byp_bij h
  have i1 := ih hb
  have le := cc_le n (byp n f)
  rw [cc_succ h]
  by_cases c : f n = n
  ·rw [if_pos c]
   have e : ∀ i, i < n → byp n f i = f i := by
    intro i hi
    unfold byp
    rw [if_neg]
    intro d
    have := h.2 i n (by omega) (by omega) (by omega)
    omega
   rw [odd_congr e] at i1
   have : odd (n + 1) f = odd n f := by
    unfold odd
    rw [List.range_succ, px_snoc, xs_false]
    ·simp
    ·intro i hi
     have hi' : i < n := by simpa using hi
     have := h.1 i (by omega)
     simp; omega
   rw [this, ← i1]
   omega
  ·rw [if_neg c]
   obtain ⟨i, hi, e⟩ := surj h n (by omega)
   have hin : i < n := by
    apply Nat.lt_of_le_of_ne (by omega)
    intro d; subst d; exact c e
   let F : Nat → Nat := fun j => if j = n then n else byp n f j
   have hF : Bij (n + 1) F := by
    constructor
    ·intro j hj; show (if j = n then n else byp n f j) < n + 1
     split
     ·omega
     ·have := hb.1 j (by omega); omega
    ·intro a b ha hb' e2
     have e3 : (if a = n then n else byp n f a) = (if b = n then n else byp n f b) := e2
     by_cases c1 : a = n <;> by_cases c2 : b = n
     ·omega
     ·rw [if_pos c1, if_neg c2] at e3; have := hb.1 b (by omega); omega
     ·rw [if_neg c1, if_pos c2] at e3; have := hb.1 a (by omega); omega
     ·rw [if_neg c1, if_neg c2] at e3; exact hb.2 a b (by omega) (by omega) e3
   have e1 : ∀ j, j < n + 1 → f j = F (swp i n j) := by
    intro j hj
    show f j = if swp i n j = n then n else byp n f (swp i n j)
    by_cases c1 : j = i
    ·have : swp i n j = n := by unfold swp; rw [if_pos c1]
     rw [if_pos this, c1, e]
    ·by_cases c2 : j = n
     ·have : swp i n j = i := by unfold swp; rw [if_neg c1, if_pos c2]
      rw [this, if_neg (by omega)]
      unfold byp; rw [if_pos e, c2]
     ·have : swp i n j = j := by unfold swp; rw [if_neg c1, if_neg c2]
      rw [this, if_neg c2]
      unfold byp
      rw [if_neg]
      intro d
      exact c1 (h.2 j i hj (by omega) (by omega))
   have o1 := odd_congr e1
   have o2 := odd_comp (swp_bij (n := n + 1) (a := i) (b := n) (by omega) (by omega)) hF
   rw [odd_swp hin] at o2
   have o3 : odd (n + 1) F = odd n (byp n f) := by
    have : odd n F = odd n (byp n f) := odd_congr (fun j hj => by show (if j = n then n else byp n f j) = _; rw [if_neg (by omega)])
    rw [← this]
    unfold odd
    rw [List.range_succ, px_snoc, xs_false]
    ·simp
    ·intro j hj
     have hj' : j < n := by simpa using hj
     have := hF.1 j (by omega)
     have e4 : F n = n := by show (if n = n then n else byp n f n) = n; rw [if_pos rfl]
     rw [e4]
     simp; omega
   rw [o1, o2, o3]
   have : n + 1 - (cc n (byp n f) + 0) = (n - cc n (byp n f)) + 1 := by omega
   rw [this]
   cases d : odd n (byp n f) <;> rw [d] at i1 <;> simp at i1 ⊢ <;> omega

/-- the sign -/
def sgn (n : Nat) (f : Nat → Nat) : Int := if (n - cc n f) % 2 = 0 then 1 else -1

theorem sgn_odd {n : Nat} {f : Nat → Nat} (h : Bij n f) : sgn n f = if odd n f = true then -1 else 1 := by
 unfold sgn
 rw [cc_odd h]
 cases odd n f <;> rfl

theorem sgn_comp {n : Nat} {f g : Nat → Nat} (hf : Bij n f) (hg : Bij n g) : sgn n (fun i => g (f i)) = sgn n f * sgn n g := by
 rw [sgn_odd hf, sgn_odd hg, sgn_odd (comp_bij hf hg), odd_comp hf hg]
 cases odd n f <;> cases odd n g <;> rfl

/-- the points that f leads to from x -/
def orb (f : Nat → Nat) (x y : Nat) : Prop := ∃ k, it f k x = y

theorem orb_refl (f : Nat → Nat) (x : Nat) : orb f x x := ⟨0, rfl⟩

theorem orb_trans {f : Nat → Nat} {x y z : Nat} : orb f x y → orb f y z → orb f x z := by
 rintro ⟨a, rfl⟩ ⟨b, rfl⟩
 exact ⟨b + a, it_add f b a x⟩

theorem orb_lt {n : Nat} {f : Nat → Nat} (h : Bij n f) {x y : Nat} (hx : x < n) : orb f x y → y < n := by
 rintro ⟨k, rfl⟩; exact it_lt h k hx

theorem orb_symm {n : Nat} {f : Nat → Nat} (h : Bij n f) {x y : Nat} (hx : x < n) : orb f x y → orb f y x := by
 rintro ⟨k, rfl⟩
 have p := per_spec h hx
 refine ⟨per n f x - k % per n f x, ?_⟩
 rw [it_mod_per h hx k, ← it_add]
 have := Nat.mod_lt k p.1
 rw [show per n f x - k % per n f x + k % per n f x = per n f x by omega]
 exact p.2.2.1

/-- the cycle of x, from x on -/
def cyc (n : Nat) (f : Nat → Nat) (x : Nat) : List Nat := (List.range (per n f x)).map (fun k => it f k x)

theorem cyc_length (n : Nat) (f : Nat → Nat) (x : Nat) : (cyc n f x).length = per n f x := by simp [cyc]

theorem mem_cyc {n : Nat} {f : Nat → Nat} (h : Bij n f) {x y : Nat} (hx : x < n) : y ∈ cyc n f x ↔ orb f x y := by
 unfold cyc orb
 simp only [mem_map, mem_range]
 constructor
 ·rintro ⟨k, _, e⟩; exact ⟨k, e⟩
 ·rintro ⟨k, e⟩
  exact ⟨k % per n f x, Nat.mod_lt _ (per_spec h hx).1, by rw [← it_mod_per h hx]; exact e⟩

theorem it_inj_per {n : Nat} {f : Nat → Nat} (h : Bij n f) {x : Nat} (hx : x < n) {a b : Nat} (ha : a < per n f x) (hb : b < per n f x) (e : it f a x = it f b x) : a = b := by
 have key : ∀ a b, a < b → b < per n f x → it f a x = it f b x → False := by
  intro a b hab hb e
  have : it f (a + (b - a)) x = it f a (it f (b - a) x) := it_add ..
  rw [show a + (b - a) = b by omega, ← e] at this
  exact (per_spec h hx).2.2.2 (b - a) (by omega) (by omega) (it_inj h a hx (it_lt h _ hx) this).symm
 rcases Nat.lt_trichotomy a b with c | c | c
 ·exact (key a b c hb e).elim
 ·exact c
 ·exact (key b a c ha e.symm).elim

theorem nodup_map_range {m : Nat} {g : Nat → Nat} (h : ∀ a b, a < m → b < m → g a = g b → a = b) : ((List.range m).map g).Nodup := by
 unfold Nodup
 rw [pairwise_map]
 have := nodup_range (n := m)
 unfold Nodup at this
 rw [pairwise_iff_getElem] at this ⊢
 intro i j hi hj hij e
 have hi' : i < m := by simpa using hi
 have hj' : j < m := by simpa using hj
 simp only [getElem_range] at e
 have := h i j hi' hj' e
 omega

theorem cyc_nodup {n : Nat} {f : Nat → Nat} (h : Bij n f) {x : Nat} (hx : x < n) : (cyc n f x).Nodup :=
 nodup_map_range fun _ _ ha hb e => it_inj_per h hx ha hb e

theorem isMin_iff' {n : Nat} {f : Nat → Nat} (h : Bij n f) {i : Nat} (hi : i < n) : isMin n f i = true ↔ ∀ j, j < i → ¬ orb f j i := by
 rw [isMin_iff h hi]
 constructor
 ·rintro a j hj ⟨k, e⟩
  obtain ⟨k', e'⟩ := orb_symm h (by omega : j < n) ⟨k, e⟩
  have := a k'
  omega
 ·intro a k
  apply Nat.le_of_not_lt
  intro hlt
  exact a _ hlt (orb_symm h hi ⟨k, rfl⟩)

/-- the least points of the cycles -/
def mins (n : Nat) (f : Nat → Nat) : List Nat := (List.range n).filter (isMin n f)

theorem mem_mins {n : Nat} {f : Nat → Nat} {i : Nat} : i ∈ mins n f ↔ i < n ∧ isMin n f i = true := by
 unfold mins; rw [mem_filter, mem_range]

/-- the least point of the cycle of x -/
theorem min_of {n : Nat} {f : Nat → Nat} (h : Bij n f) {x : Nat} (hx : x < n) : ∃ m, m < n ∧ isMin n f m = true ∧ orb f m x ∧ m ≤ x := by
 induction x using Nat.strongRecOn with
 | _ x ih =>
  by_cases c : isMin n f x = true
  ·exact ⟨x, hx, c, orb_refl f x, Nat.le_refl _⟩
  ·rw [isMin_iff' h hx] at c
   have : ∃ j, j < x ∧ orb f j x := by
    apply Classical.byContradiction
    intro d
    exact c fun j hj e => d ⟨j, hj, e⟩
   obtain ⟨j, hj, o⟩ := this
   obtain ⟨m, h1, h2, h3, h4⟩ := ih j hj (by omega)
   exact ⟨m, h1, h2, orb_trans h3 o, by omega⟩

theorem mins_eq {n : Nat} {f : Nat → Nat} (h : Bij n f) {a b x : Nat} (ha : a < n) (hb : b < n) (ma : isMin n f a = true) (mb : isMin n f b = true) (oa : orb f a x) (ob : orb f b x) : a = b := by
 have o1 : orb f a b := orb_trans oa (orb_symm h hb ob)
 have o2 : orb f b a := orb_symm h ha o1
 rcases Nat.lt_trichotomy a b with c | c | c
 ·exact ((isMin_iff' h hb).1 mb a c o1).elim
 ·exact c
 ·exact ((isMin_iff' h ha).1 ma b c o2).elim

/-- all cycles -/
def cycs (n : Nat) (f : Nat → Nat) : List (List Nat) := (mins n f).map (cyc n f)

theorem flat_nodup {n : Nat} {f : Nat → Nat} (h : Bij n f) (l : List Nat) (nd : l.Nodup) (hl : ∀ a, a ∈ l → a < n ∧ isMin n f a = true) : ((l.map (cyc n f)).flatten).Nodup := by
 induction l with
 | nil => simp
 | cons a l ih =>
  rw [nodup_cons] at nd
  obtain ⟨h1, h2⟩ := hl a (by simp)
  rw [List.map_cons, List.flatten_cons, nodup_append]
  refine ⟨cyc_nodup h h1, ih nd.2 (fun b hb => hl b (by simp [hb])), ?_⟩
  intro x hx y hy e
  subst e
  rw [mem_flatten] at hy
  obtain ⟨c, hc, hxc⟩ := hy
  rw [mem_map] at hc
  obtain ⟨b, hb, rfl⟩ := hc
  obtain ⟨h3, h4⟩ := hl b (by simp [hb])
  have := mins_eq h h1 h3 h2 h4 ((mem_cyc h h1).1 hx) ((mem_cyc h h3).1 hxc)
  subst this
  exact nd.1 hb

theorem mins_nodup (n : Nat) (f : Nat → Nat) : (mins n f).Nodup := (nodup_range (n := n)).filter _

theorem flat_perm {n : Nat} {f : Nat → Nat} (h : Bij n f) : ((cycs n f).flatten).Perm (List.range n) := by
 rw [perm_iff_count]
 intro a
 have nd : ((cycs n f).flatten).Nodup := flat_nodup h (mins n f) (mins_nodup n f) (fun a ha => mem_mins.1 ha)
 rw [nd.count, (nodup_range (n := n)).count]
 have : a ∈ (cycs n f).flatten ↔ a ∈ List.range n := by
  rw [mem_flatten, mem_range]
  constructor
  ·rintro ⟨c, hc, hac⟩
   unfold cycs at hc
   rw [mem_map] at hc
   obtain ⟨b, hb, rfl⟩ := hc
   have := mem_mins.1 hb
   exact orb_lt h this.1 ((mem_cyc h this.1).1 hac)
  ·intro ha
   obtain ⟨m, h1, h2, h3, _⟩ := min_of h ha
   exact ⟨cyc n f m, by unfold cycs; rw [mem_map]; exact ⟨m, mem_mins.2 ⟨h1, h2⟩, rfl⟩, (mem_cyc h h1).2 h3⟩
 by_cases c : a ∈ List.range n
 ·rw [if_pos c, if_pos (this.2 c)]
 ·rw [if_neg c, if_neg (fun d => c (this.1 d))]

theorem flat_length {n : Nat} {f : Nat → Nat} (h : Bij n f) : ((cycs n f).flatten).length = n := by
 rw [(flat_perm h).length_eq, length_range]

theorem per_eq {n : Nat} {f : Nat → Nat} (h : Bij n f) {x m : Nat} (hx : x < n) (h0 : 0 < m) (h1 : it f m x = x) (h2 : ∀ k, 0 < k → k < m → it f k x ≠ x) : per n f x = m := by
 have p := per_spec h hx
 rcases Nat.lt_trichotomy (per n f x) m with c | c | c
 ·exact (h2 _ p.1 c p.2.2.1).elim
 ·exact c
 ·exact (p.2.2.2 m h0 c h1).elim

/-- all points of a cycle have one period -/
theorem per_it {n : Nat} {f : Nat → Nat} (h : Bij n f) {x : Nat} (hx : x < n) (a : Nat) : per n f (it f a x) = per n f x := by
 have p := per_spec h hx
 refine per_eq h (it_lt h a hx) p.1 ?_ ?_
 ·rw [← it_add, Nat.add_comm, it_add, p.2.2.1]
 ·intro k hk hk2 e
  rw [← it_add, Nat.add_comm, it_add] at e
  exact p.2.2.2 k hk hk2 (it_inj h a (it_lt h k hx) hx e)

theorem per_orb {n : Nat} {f : Nat → Nat} (h : Bij n f) {x y : Nat} (hx : x < n) (o : orb f x y) : per n f y = per n f x := by
 obtain ⟨k, rfl⟩ := o; exact per_it h hx k

theorem it_conj_lt {n : Nat} {f g k : Nat → Nat} (hf : Bij n f) (e : ∀ x, x < n → k (g x) = g (f x)) (m : Nat) {x : Nat} (hx : x < n) : it k m (g x) = g (it f m x) := by
 induction m with
 | zero => rfl
 | succ m ih => show k (it k m (g x)) = g (f (it f m x)); rw [ih, e _ (it_lt hf m hx)]

theorem per_conj {n : Nat} {f g k : Nat → Nat} (hf : Bij n f) (hg : Bij n g) (hk : Bij n k) (e : ∀ x, x < n → k (g x) = g (f x)) {x : Nat} (hx : x < n) : per n k (g x) = per n f x := by
 have p := per_spec hf hx
 refine per_eq hk (hg.1 x hx) p.1 ?_ ?_
 ·rw [it_conj_lt hf e _ hx, p.2.2.1]
 ·intro m hm hm2 d
  rw [it_conj_lt hf e _ hx] at d
  exact p.2.2.2 m hm hm2 (hg.2 _ _ (it_lt hf m hx) hx d)

/-- how many cycles have the length L -/
def cl (n : Nat) (f : Nat → Nat) (L : Nat) : Nat := (mins n f).countP (fun m => per n f m == L)

theorem countP_const {l : List Nat} {p : Nat → Bool} {b : Bool} (h : ∀ a, a ∈ l → p a = b) : l.countP p = if b then l.length else 0 := by
 cases b with
 | true => rw [if_pos rfl, countP_eq_length]; exact h
 | false => rw [if_neg (by simp), countP_eq_zero]; intro a ha; simp [h a ha]

theorem count_flat {n : Nat} {f : Nat → Nat} (h : Bij n f) (L : Nat) (l : List Nat) (hl : ∀ a, a ∈ l → a < n) : (l.map (cyc n f)).flatten.countP (fun x => per n f x == L) = l.countP (fun m => per n f m == L) * L := by
 induction l with
 | nil => simp
 | cons a l ih =>
  have ha := hl a (by simp)
  rw [List.map_cons, List.flatten_cons, countP_append, ih (fun b hb => hl b (by simp [hb])), countP_cons]
  rw [countP_const (b := per n f a == L) (fun x hx => by rw [per_orb h ha ((mem_cyc h ha).1 hx)]), cyc_length]
  by_cases c : per n f a = L
  ·simp [c, Nat.add_mul, Nat.add_comm]
  ·simp [c]

theorem cl_mul {n : Nat} {f : Nat → Nat} (h : Bij n f) (L : Nat) : cl n f L * L = (List.range n).countP (fun x => per n f x == L) := by
 rw [← (flat_perm h).countP_eq]
 unfold cl cycs
 rw [count_flat h L _ (fun a ha => (mem_mins.1 ha).1)]

theorem countP_bij {n : Nat} {g : Nat → Nat} (hg : Bij n g) (p : Nat → Bool) : (List.range n).countP p = (List.range n).countP (fun x => p (g x)) := by
 rw [← (map_perm hg).countP_eq, countP_map]; rfl

theorem countP_congr' {l : List Nat} {p q : Nat → Bool} (h : ∀ a, a ∈ l → p a = q a) : l.countP p = l.countP q := by
 apply List.countP_congr
 intro a ha
 rw [h a ha]

theorem cl_conj {n : Nat} {f g k : Nat → Nat} (hf : Bij n f) (hg : Bij n g) (hk : Bij n k) (e : ∀ x, x < n → k (g x) = g (f x)) {L : Nat} (hL : 0 < L) : cl n k L = cl n f L := by
 apply Nat.eq_of_mul_eq_mul_right hL
 rw [cl_mul hk, cl_mul hf, countP_bij hg]
 apply countP_congr'
 intro x hx
 rw [per_conj hf hg hk e (by simpa using hx)]

def fact : Nat → Nat
 | 0 => 1
 | n + 1 => (n + 1) * fact n

theorem fact_pos (n : Nat) : 0 < fact n := by
 induction n with
 | zero => exact Nat.one_pos
 | succ n ih => exact Nat.mul_pos (by omega) ih

theorem dvd_fact {m n : Nat} (h0 : 0 < m) (h : m ≤ n) : m ∣ fact n := by
 induction n with
 | zero => omega
 | succ n ih =>
  by_cases c : m = n + 1
  ·rw [c]; exact Nat.dvd_mul_right ..
  ·exact Nat.dvd_trans (ih (by omega)) (Nat.dvd_mul_left ..)

/-- does f done m times move nothing? -/
def still (n : Nat) (f : Nat → Nat) (m : Nat) : Bool := (List.range n).all fun x => it f m x == x

theorem still_iff (n : Nat) (f : Nat → Nat) (m : Nat) : still n f m = true ↔ ∀ x, x < n → it f m x = x := by
 unfold still; simp

theorem still_per {n : Nat} {f : Nat → Nat} (h : Bij n f) (m : Nat) : still n f m = true ↔ ∀ x, x < n → per n f x ∣ m := by
 rw [still_iff]
 exact ⟨fun a x hx => (it_eq_iff h hx m).1 (a x hx), fun a x hx => (it_eq_iff h hx m).2 (a x hx)⟩

/-- how often until nothing is moved -/
def ord (n : Nat) (f : Nat → Nat) : Nat := least (still n f) (fact n)

theorem ord_spec {n : Nat} {f : Nat → Nat} (h : Bij n f) : 0 < ord n f ∧ ord n f ≤ fact n ∧ (∀ x, x < n → it f (ord n f) x = x) ∧ ∀ k, 0 < k → k < ord n f → still n f k = false := by
 have hs : still n f (fact n) = true := (still_per h _).2 fun x hx => by
  have p := per_spec h hx
  exact dvd_fact p.1 p.2.1
 obtain ⟨a, b, c, d⟩ := least_spec (p := still n f) (fact_pos n) (Nat.le_refl _) hs
 exact ⟨a, b, (still_iff n f _).1 c, d⟩

theorem ord_least {n : Nat} {f : Nat → Nat} (h : Bij n f) {m : Nat} (hm : 0 < m) (hs : still n f m = true) : ord n f ≤ m := by
 apply Nat.le_of_not_lt
 intro c
 have := (ord_spec h).2.2.2 m hm c
 rw [hs] at this; cases this

/-- a permutation renamed by another one -/
def conj (n : Nat) (g f : Nat → Nat) (y : Nat) : Nat := g (f (finv n g y))

theorem conj_bij {n : Nat} {g f : Nat → Nat} (hg : Bij n g) (hf : Bij n f) : Bij n (conj n g f) :=
 have h := comp_bij (finv_bij hg) hf
 comp_bij (g := g) h hg
end Go.Proofs.YtieaplnngmgkeaaGreatDoor.Sm
namespace Go.Proofs.YtieaplnngmgkeaaGreatDoor.R
open Go.RowKit Go.Proofs.YtieaplnngmgkeaaGreatDoorW.PrintWords Go.Proofs.YtieaplnngmgkeaaGreatDoorW.PrintLast Go.Proofs.YtieaplnngmgkeaaGreatDoorW.PrintMore Go.Proofs.YtieaplnngmgkeaaGreatDoor.F Go.Proofs.YtieaplnngmgkeaaGreatDoor.Sm
theorem Ev.pos {α : Type} {c : Prop} [Decidable c] {A B : Nat → Option α} {r : α} (h : c) (k : Ev A r) : Ev (fun n => if c then A n else B n) r := by
 simp only [if_pos h]; exact k

theorem Ev.neg {α : Type} {c : Prop} [Decidable c] {A B : Nat → Option α} {r : α} (h : ¬ c) (k : Ev B r) : Ev (fun n => if c then A n else B n) r := by
 simp only [if_neg h]; exact k

theorem Ev.bind1 {α β : Type} {g : Nat → Option α} {f : Nat → α → Option β} {a : α} {r : β} (h : Ev g a) (k : Ev (fun n => f n a) r) : Ev (fun n => (g n).bind (f n)) r := Ev.bind h k

theorem Ev.some1 {α β : Type} {f : Nat → α → Option β} {a : α} {r : β} (k : Ev (fun n => f n a) r) : Ev (fun n => (some a).bind (f n)) r := k

theorem wrap_nat {i : Nat} (h : i < 9223372036854775807) : wrap64 ((i : Int) + 1) = ((i + 1 : Nat) : Int) := by unfold wrap64; omega

theorem wrap_in {n : Int} (h1 : -9223372036854775808 ≤ n) (h2 : n ≤ 9223372036854775807) : wrap64 n = n := by unfold wrap64; omega

theorem rd_get {l : List Int} {i : Nat} (h : i < l.length) : rd l (i : Int) = l[i] := by
 unfold rd; simp [h]

theorem rd_pm {n : Nat} {f : Nat → Nat} {i : Nat} (h : i < n) : rd (pm n f) (i : Int) = (f i : Int) := by
 unfold rd; exact pm_getD n f i h

/-- a list that is a permutation -/
def IsPerm (n : Nat) (l : List Int) (f : Nat → Nat) : Prop := 1 ≤ n ∧ n ≤ 12 ∧ Bij n f ∧ l = pm n f

theorem valid_iff (l : List Int) : impl_PermValid.validB l = true ↔ ∃ f, IsPerm l.length l f := by
 unfold impl_PermValid.validB
 simp only [Bool.and_eq_true, decide_eq_true_eq, List.all_eq_true, List.mem_range]
 constructor
 ·rintro ⟨⟨h1, h2⟩, h3⟩
  have h3' : ∀ i, i < l.length → 0 ≤ rd l i ∧ rd l i < l.length ∧ ∀ j, j < i → rd l j ≠ rd l i := by
   intro i hi
   have := h3 i hi
   unfold impl_PermValid.okAt at this
   simp only [Bool.and_eq_true, decide_eq_true_eq, Bool.not_eq_true', List.contains_eq_mem, decide_eq_false_iff_not] at this
   refine ⟨this.1.1, this.1.2, fun j hj e => this.2 ?_⟩
   rw [← e, rd_get (show j < l.length by omega)]
   rw [List.mem_iff_getElem]
   exact ⟨j, by simp; omega, by simp⟩
  refine ⟨fun i => (rd l i).toNat, h1, h2, ⟨fun i hi => by have := h3' i hi; show (rd l i).toNat < _; omega, fun i j hi hj e => ?_⟩, ?_⟩
  ·have a := h3' i hi
   have b := h3' j hj
   have e' : (rd l i).toNat = (rd l j).toNat := e
   rcases Nat.lt_trichotomy i j with c | c | c
   ·exact (b.2.2 i c (by omega)).elim
   ·exact c
   ·exact (a.2.2 j c (by omega)).elim
  ·refine eq_pm _ _ _ rfl fun i hi => ?_
   have := h3' i hi
   show l.getD i 0 = (((rd l i).toNat : Nat) : Int)
   have e : l.getD i 0 = rd l i := rfl
   omega
 ·rintro ⟨f, h1, h2, hf, e⟩
  refine ⟨⟨h1, h2⟩, fun i hi => ?_⟩
  have r : ∀ j, j < l.length → rd l j = (f j : Int) := fun j hj => by
   have := rd_pm (n := l.length) (f := f) hj
   rwa [← e] at this
  unfold impl_PermValid.okAt
  simp only [Bool.and_eq_true, decide_eq_true_eq, Bool.not_eq_true', List.contains_eq_mem, decide_eq_false_iff_not]
  refine ⟨⟨by rw [r i hi]; omega, by rw [r i hi]; have := hf.1 i hi; omega⟩, fun hm => ?_⟩
  rw [List.mem_iff_getElem] at hm
  obtain ⟨j, hj, ej⟩ := hm
  have hj' : j < i := by simp at hj; omega
  have : l[j]'(by omega) = rd l i := by simpa using ej
  rw [← rd_get (show j < l.length by omega), r i hi, r j (by omega)] at this
  have := hf.2 j i (by omega) hi (by omega)
  omega

theorem implValid_ev (l : List Int) : Ev (fun _ => impl_PermValid.f l) (impl_PermValid.validB l) := Ev.now _

/-- the reference's look: up to i all is well -/
theorem specValid_ev (l : List Int) (hl : l.length ≤ 4294967296) : Ev (fun k => spec_PermValid.f k l) (impl_PermValid.validB l) := by
 have e0 : ∀ (a b c : Int), spec_l6In.f a b c = some (decide (b ≤ a) && decide (a ≤ c)) := by
  intro a b c
  unfold spec_l6In.f
  by_cases h : b ≤ a
  ·rw [if_pos h]; simp [h]
  ·rw [if_neg h]; simp [h]
 -- the inner loop
 have inner : ∀ d i j, i < l.length → j + d = i → (∀ m, m < j → rd l m ≠ rd l i) → ∀ r, ((∀ m, m < i → rd l m ≠ rd l i) → Ev (fun k => spec_PermValid.l0 k l ((i + 1 : Nat) : Int)) r) → ((∃ m, m < i ∧ rd l m = rd l i) → r = false) → Ev (fun k => spec_PermValid.l1 k l (i : Int) (j : Int)) r := by
  intro d
  induction d with
  | zero =>
   intro i j hi hj hm r h1 h2
   refine Ev.step (f := fun k => spec_PermValid.l0 k l ((i + 1 : Nat) : Int)) (fun k => by rw [spec_PermValid.l1, if_neg (by omega), wrap_nat (by omega)]) ?_
   exact h1 (fun m hmi => hm m (by omega))
  | succ d ih =>
   intro i j hi hj hm r h1 h2
   by_cases c : rd l (j : Int) = rd l (i : Int)
   ·have := h2 ⟨j, by omega, c⟩
    subst this
    refine Ev.step (f := fun k => some false) (fun k => by
     rw [spec_PermValid.l1, if_pos (by omega), if_pos (by omega), if_pos (by omega), if_pos (by omega), if_pos (by omega), if_pos c]) (Ev.now _)
   ·refine Ev.step (f := fun k => spec_PermValid.l1 k l (i : Int) ((j + 1 : Nat) : Int)) (fun k => by
     rw [spec_PermValid.l1, if_pos (by omega), if_pos (by omega), if_pos (by omega), if_pos (by omega), if_pos (by omega), if_neg c, wrap_nat (by omega)]) ?_
    refine ih i (j + 1) hi (by omega) (fun m hm' => ?_) r h1 h2
    by_cases e : m = j
    ·subst e; exact c
    ·exact hm m (by omega)
 have outer : ∀ d i, i + d = l.length → (∀ m, m < i → impl_PermValid.okAt l m = true) → Ev (fun k => spec_PermValid.l0 k l (i : Int)) (impl_PermValid.validB l) := by
  intro d
  induction d with
  | zero =>
   intro i hi hm
   have e : impl_PermValid.validB l = (decide ((1 : Int) ≤ (l.length : Int)) && decide ((l.length : Int) ≤ 12)) := by
    unfold impl_PermValid.validB
    have : (List.range l.length).all (impl_PermValid.okAt l) = true := by
     rw [List.all_eq_true]; intro m hm'; exact hm m (by have := List.mem_range.1 hm'; omega)
    rw [this]
    rw [Bool.and_true]
    congr 1
    ·simp; omega
    ·simp; omega
   refine Ev.step (f := fun _ => some (impl_PermValid.validB l)) (fun k => by rw [spec_PermValid.l0, if_neg (by omega), e0, e]; rfl) (Ev.now _)
  | succ d ih =>
   intro i hi hm
   have hil : i < l.length := by omega
   have fail : impl_PermValid.okAt l i = false → impl_PermValid.validB l = false := impl_PermValid.valid_fail l i hil
   have ew : wrap64 ((l.length : Int) - 1) = (l.length : Int) - 1 := wrap_in (by omega) (by omega)
   by_cases c : 0 ≤ rd l (i : Int) ∧ rd l (i : Int) ≤ (l.length : Int) - 1
   ·refine Ev.step (f := fun k => spec_PermValid.l1 k l (i : Int) ((0 : Nat) : Int)) (fun k => by
     rw [spec_PermValid.l0, if_pos (by omega), if_pos (by omega), e0, ew]
     simp only [Option.bind_some]
     rw [if_pos (by simp [c.1, c.2])]; rfl) ?_
    refine inner i i 0 hil (by omega) (fun m hm' => absurd hm' (by omega)) _ (fun hd => ?_) (fun hd => ?_)
    ·refine ih (i + 1) (by omega) (fun m hm' => ?_)
     by_cases e : m = i
     ·subst e
      unfold impl_PermValid.okAt
      simp only [Bool.and_eq_true, decide_eq_true_eq, Bool.not_eq_true', List.contains_eq_mem, decide_eq_false_iff_not]
      refine ⟨⟨c.1, by omega⟩, fun hx => ?_⟩
      rw [List.mem_iff_getElem] at hx
      obtain ⟨j, hj, ej⟩ := hx
      have hj' : j < m := by simp at hj; omega
      have : l[j]'(by omega) = rd l m := by simpa using ej
      rw [← rd_get (show j < l.length by omega)] at this
      exact hd j hj' this
     ·exact hm m (by omega)
    ·obtain ⟨m, hmi, em⟩ := hd
     apply fail
     unfold impl_PermValid.okAt
     have : (l.take i).contains (rd l i) = true := by
      rw [List.contains_eq_mem, decide_eq_true_eq, ← em, rd_get (show m < l.length by omega), List.mem_iff_getElem]
      exact ⟨m, by simp; omega, by simp⟩
     simp only [this, Bool.not_true, Bool.and_false]
   ·have : impl_PermValid.validB l = false := by
     apply fail
     unfold impl_PermValid.okAt
     by_cases c1 : 0 ≤ rd l (i : Int)
     ·have : ¬ rd l (i : Int) < l.length := by omega
      simp [this]
     ·simp [c1]
    rw [this]
    refine Ev.step (f := fun k => some false) (fun k => by
     rw [spec_PermValid.l0, if_pos (by omega), if_pos (by omega), e0, ew]
     simp only [Option.bind_some]
     rw [if_neg]
     simp only [Bool.and_eq_true, decide_eq_true_eq]
     exact c) (Ev.now _)
 unfold spec_PermValid.f
 exact outer l.length 0 (by omega) (fun m hm => absurd hm (by omega))

theorem rd_set {s : List Int} {a b : Nat} {v : Int} (h : a < s.length) : rd (s.set a v) (b : Int) = if a = b then v else rd s (b : Int) := by
 unfold rd
 simp only [Int.toNat_natCast, List.getD_eq_getElem?_getD, List.getElem?_set]
 by_cases e : a = b
 ·subst e; simp [h]
 ·simp [e]

theorem eq_pm' {n : Nat} {f : Nat → Nat} {l : List Int} (hl : l.length = n) (h : ∀ i, i < n → rd l (i : Int) = (f i : Int)) : l = pm n f :=
 eq_pm n f l hl fun i hi => by have := h i hi; unfold rd at this; simpa using this

theorem sameInts_loop (a b : List Int) (hl : a.length = b.length) (hb : a.length ≤ 4294967296) : ∀ d i, i + d = a.length → Ev (fun k => laws_sameInts.l0 k a b (i : Int)) (decide (a.drop i = b.drop i)) := by
 intro d
 induction d with
 | zero =>
  intro i hi
  refine Ev.step (f := fun _ => some true) (fun k => by rw [laws_sameInts.l0, if_neg (by omega)]) ?_
  rw [List.drop_of_length_le (by omega), List.drop_of_length_le (by omega)]
  exact Ev.now _
 | succ d ih =>
  intro i hi
  have ha : i < a.length := by omega
  have hb' : i < b.length := by omega
  rw [List.drop_eq_getElem_cons ha, List.drop_eq_getElem_cons hb']
  by_cases c : a[i] = b[i]
  ·refine Ev.step (f := fun k => laws_sameInts.l0 k a b ((i + 1 : Nat) : Int)) (fun k => by
    rw [laws_sameInts.l0, if_pos (by omega), if_pos (by omega), if_pos (by omega), rd_get ha, rd_get hb', if_pos c, wrap_nat (by omega)]) ?_
   have e : decide (a[i] :: a.drop (i + 1) = b[i] :: b.drop (i + 1)) = decide (a.drop (i + 1) = b.drop (i + 1)) := by
    simp only [List.cons.injEq, c, true_and]
   rw [e]
   exact ih (i + 1) (by omega)
  ·refine Ev.step (f := fun k => some false) (fun k => by
    rw [laws_sameInts.l0, if_pos (by omega), if_pos (by omega), if_pos (by omega), rd_get ha, rd_get hb', if_neg c]) ?_
   have : decide (a[i] :: a.drop (i + 1) = b[i] :: b.drop (i + 1)) = false := by
    simp only [List.cons.injEq, c, false_and, decide_false]
   rw [this]
   exact Ev.now _

theorem sameInts_ev {a b : List Int} (hb : a.length ≤ 4294967296) : Ev (fun k => laws_sameInts.f k a b) (decide (a = b)) := by
 unfold laws_sameInts.f
 by_cases c : a.length = b.length
 ·refine Ev.pos (by omega) ?_
  exact sameInts_loop a b c hb a.length 0 (by omega)
 ·have : decide (a = b) = false := by simp; intro e; exact c (by rw [e])
  rw [this]
  exact Ev.neg (by omega) (Ev.now _)

theorem equal_loop (a b : List Int) (hl : a.length = b.length) (hb : a.length ≤ 4294967296) : ∀ d i, i + d = a.length → Ev (fun k => slices_Equal_int_int.l0 k a b (a.length : Int) (i : Int)) (decide (a.drop i = b.drop i)) := by
 intro d
 induction d with
 | zero =>
  intro i hi
  refine Ev.step (f := fun _ => some true) (fun k => by rw [slices_Equal_int_int.l0, if_neg (by omega)]) ?_
  rw [List.drop_of_length_le (by omega), List.drop_of_length_le (by omega)]
  exact Ev.now _
 | succ d ih =>
  intro i hi
  have ha : i < a.length := by omega
  have hb' : i < b.length := by omega
  rw [List.drop_eq_getElem_cons ha, List.drop_eq_getElem_cons hb']
  by_cases c : a[i] = b[i]
  ·refine Ev.step (f := fun k => slices_Equal_int_int.l0 k a b (a.length : Int) ((i + 1 : Nat) : Int)) (fun k => by
    rw [slices_Equal_int_int.l0, if_pos (by omega), if_pos (by omega), if_pos (by omega), if_pos (by omega), rd_get ha, rd_get hb', if_pos c, wrap_nat (by omega)]) ?_
   have e : decide (a[i] :: a.drop (i + 1) = b[i] :: b.drop (i + 1)) = decide (a.drop (i + 1) = b.drop (i + 1)) := by
    simp only [List.cons.injEq, c, true_and]
   rw [e]
   exact ih (i + 1) (by omega)
  ·refine Ev.step (f := fun k => some false) (fun k => by
    rw [slices_Equal_int_int.l0, if_pos (by omega), if_pos (by omega), if_pos (by omega), if_pos (by omega), rd_get ha, rd_get hb', if_neg c]) ?_
   have : decide (a[i] :: a.drop (i + 1) = b[i] :: b.drop (i + 1)) = false := by
    simp only [List.cons.injEq, c, false_and, decide_false]
   rw [this]
   exact Ev.now _

theorem equal_ev {a b : List Int} (hb : a.length ≤ 4294967296) : Ev (fun k => slices_Equal_int_int.f k a b) (decide (a = b)) := by
 unfold slices_Equal_int_int.f
 by_cases c : a.length = b.length
 ·refine Ev.pos (by omega) ?_
  exact equal_loop a b c hb a.length 0 (by omega)
 ·have : decide (a = b) = false := by simp; intro e; exact c (by rw [e])
  rw [this]
  exact Ev.neg (by omega) (Ev.now _)

theorem still_ev {n : Nat} (hn : n ≤ 1000) : Ev (fun k => impl_still.f k (n : Int)) (pm n fun i => i) := by
 have loop : ∀ d i (s : List Int), i + d = n → s.length = n → (∀ j, j < i → rd s (j : Int) = (j : Int)) → Ev (fun k => impl_still.l0 k s (n : Int) (i : Int)) (pm n fun i => i) := by
  intro d
  induction d with
  | zero =>
   intro i s hi hs h
   refine Ev.step (f := fun _ => some s) (fun k => by rw [impl_still.l0, if_neg (by omega)]) ?_
   rw [eq_pm' (f := fun i => i) hs (fun j hj => h j (by omega))]
   exact Ev.now _
  | succ d ih =>
   intro i s hi hs h
   refine Ev.step (f := fun k => impl_still.l0 k (s.set i (i : Int)) (n : Int) ((i + 1 : Nat) : Int)) (fun k => by
    rw [impl_still.l0, if_pos (by omega), if_pos (by omega), if_pos (by omega), wrap_nat (by omega)]; rfl) ?_
   refine ih (i + 1) _ (by omega) (by simp [hs]) (fun j hj => ?_)
   rw [rd_set (by omega)]
   by_cases e : i = j
   ·rw [if_pos e, e]
   ·rw [if_neg e]; exact h j (by omega)
 unfold impl_still.f
 refine Ev.pos (by omega) (Ev.pos (by omega) ?_)
 have := loop n 0 (List.replicate n 0) (by omega) (by simp) (fun j hj => absurd hj (by omega))
 simpa using this

theorem mul_ev {n : Nat} {f g : Nat → Nat} (hn : n ≤ 1000) (hf : ∀ i, i < n → f i < n) : Ev (fun k => impl_mul.f k (pm n f) (pm n g)) (pm n fun i => g (f i)) := by
 have loop : ∀ d i (s : List Int), i + d = n → s.length = n → (∀ j, j < i → rd s (j : Int) = (g (f j) : Int)) → Ev (fun k => impl_mul.l0 k (pm n g) s (pm n f) (n : Int) (i : Int)) (pm n fun i => g (f i)) := by
  intro d
  induction d with
  | zero =>
   intro i s hi hs h
   refine Ev.step (f := fun _ => some s) (fun k => by rw [impl_mul.l0, if_neg (by omega)]) ?_
   rw [eq_pm' (f := fun i => g (f i)) hs (fun j hj => h j (by omega))]
   exact Ev.now _
  | succ d ih =>
   intro i s hi hs h
   have hfi := hf i (by omega)
   refine Ev.step (f := fun k => impl_mul.l0 k (pm n g) (s.set i (g (f i) : Int)) (pm n f) (n : Int) ((i + 1 : Nat) : Int)) (fun k => by
    rw [impl_mul.l0, if_pos (by omega), if_pos (by omega), if_pos (by rw [pm_length]; omega), rd_pm (by omega), if_pos (by omega), if_pos (by rw [pm_length]; omega), if_pos (by omega), wrap_nat (by omega), rd_pm hfi]; rfl) ?_
   refine ih (i + 1) _ (by omega) (by simp [hs]) (fun j hj => ?_)
   rw [rd_set (by omega)]
   by_cases e : i = j
   ·rw [if_pos e, e]
   ·rw [if_neg e]; exact h j (by omega)
 unfold impl_mul.f
 simp only [pm_length]
 refine Ev.pos (by omega) (Ev.pos (by omega) ?_)
 have := loop n 0 (List.replicate n 0) (by omega) (by simp) (fun j hj => absurd hj (by omega))
 simpa using this

theorem l1Mul_ev {n : Nat} {f g : Nat → Nat} (hn : n ≤ 1000) (hf : ∀ i, i < n → f i < n) : Ev (fun k => spec_l1Mul.f k (pm n f) (pm n g)) (pm n fun i => g (f i)) := by
 have loop : ∀ d i, i + d = n → Ev (fun k => spec_l1Mul.l0 k (pm n f) (pm n g) (pm i fun i => g (f i)) (i : Int)) (pm n fun i => g (f i)) := by
  intro d
  induction d with
  | zero =>
   intro i hi
   have e : i = n := by omega
   subst e
   exact Ev.step (f := fun _ => some (pm i fun i => g (f i))) (fun k => by rw [spec_l1Mul.l0, if_neg (by rw [pm_length]; omega)]) (Ev.now _)
  | succ d ih =>
   intro i hi
   have hfi := hf i (by omega)
   refine Ev.step (f := fun k => spec_l1Mul.l0 k (pm n f) (pm n g) (pm (i + 1) fun i => g (f i)) ((i + 1 : Nat) : Int)) (fun k => by
    rw [spec_l1Mul.l0, if_pos (by rw [pm_length]; omega), if_pos (by omega), rd_pm (by omega), if_pos (by omega), if_pos (by rw [pm_length]; omega), if_pos (by rw [pm_length]; omega), wrap_nat (by omega), rd_pm hfi]
    simp [pm, List.range_succ]) (ih (i + 1) (by omega))
 unfold spec_l1Mul.f
 exact loop n 0 (by omega)

theorem back_end {n : Nat} {f : Nat → Nat} (hf : Bij n f) {s : List Int} (hs : s.length = n) (h : ∀ j, j < n → rd s (f j : Int) = (j : Int)) : s = pm n (finv n f) := by
 refine eq_pm' hs fun y hy => ?_
 obtain ⟨h1, h2⟩ := finv_spec hf hy
 have := h _ h1
 rwa [h2] at this

theorem back_step {n : Nat} {f : Nat → Nat} (hf : Bij n f) {s : List Int} (hs : s.length = n) {i : Nat} (hi : i < n) (h : ∀ j, j < i → rd s (f j : Int) = (j : Int)) : ∀ j, j < i + 1 → rd (s.set (f i) (i : Int)) (f j : Int) = (j : Int) := by
 intro j hj
 rw [rd_set (by have := hf.1 i hi; omega)]
 by_cases e : i = j
 ·subst e; rw [if_pos rfl]
 ·rw [if_neg (fun d => e (hf.2 i j hi (by omega) d))]; exact h j (by omega)

theorem back_ev {n : Nat} {f : Nat → Nat} (hn : n ≤ 1000) (hf : Bij n f) : Ev (fun k => impl_back.f k (pm n f)) (pm n (finv n f)) := by
 have loop : ∀ d i (s : List Int), i + d = n → s.length = n → (∀ j, j < i → rd s (f j : Int) = (j : Int)) → Ev (fun k => impl_back.l0 k s (pm n f) (n : Int) (i : Int)) (pm n (finv n f)) := by
  intro d
  induction d with
  | zero =>
   intro i s hi hs h
   refine Ev.step (f := fun _ => some s) (fun k => by rw [impl_back.l0, if_neg (by omega)]) ?_
   rw [back_end hf hs (fun j hj => h j (by omega))]
   exact Ev.now _
  | succ d ih =>
   intro i s hi hs h
   have hfi := hf.1 i (by omega)
   refine Ev.step (f := fun k => impl_back.l0 k (s.set (f i) (i : Int)) (pm n f) (n : Int) ((i + 1 : Nat) : Int)) (fun k => by
    rw [impl_back.l0, if_pos (by omega), if_pos (by omega), if_pos (by rw [pm_length]; omega), rd_pm (by omega), if_pos (by omega), if_pos (by omega), wrap_nat (by omega)]; rfl) ?_
   exact ih (i + 1) _ (by omega) (by simp [hs]) (back_step hf hs (by omega) h)
 unfold impl_back.f
 simp only [pm_length]
 refine Ev.pos (by omega) (Ev.pos (by omega) ?_)
 have := loop n 0 (List.replicate n 0) (by omega) (by simp) (fun j hj => absurd hj (by omega))
 simpa using this

/-- two lists that are permutations of as many points -/
def both (a b : List Int) : Bool := impl_PermValid.validB a && impl_PermValid.validB b && decide (a.length = b.length)

theorem both_iff (a b : List Int) : both a b = true ↔ ∃ n f g, IsPerm n a f ∧ IsPerm n b g := by
 unfold both
 simp only [Bool.and_eq_true, decide_eq_true_eq, valid_iff]
 constructor
 ·rintro ⟨⟨⟨f, hf⟩, g, hg⟩, e⟩
  rw [← e] at hg
  exact ⟨_, f, g, hf, hg⟩
 ·rintro ⟨n, f, g, hf, hg⟩
  have e1 : a.length = n := by rw [hf.2.2.2, pm_length]
  have e2 : b.length = n := by rw [hg.2.2.2, pm_length]
  rw [e1, e2]
  exact ⟨⟨⟨f, hf⟩, g, hg⟩, rfl⟩

theorem l1Both_ev {a b : List Int} (ha : a.length ≤ 4294967296) (hb : b.length ≤ 4294967296) : Ev (fun k => spec_l1Both.f k a b) (both a b) := by
 unfold spec_l1Both.f both
 refine Ev.bind1 (specValid_ev a ha) ?_
 cases c : impl_PermValid.validB a with
 | false => exact Ev.neg (by simp) (Ev.now _)
 | true =>
  refine Ev.pos rfl (Ev.bind1 (specValid_ev b hb) ?_)
  cases d : impl_PermValid.validB b with
  | false => exact Ev.neg (by simp) (Ev.now _)
  | true =>
   refine Ev.pos rfl ?_
   have : ((a.length : Int) == (b.length : Int)) = (true && true && decide (a.length = b.length)) := by
    by_cases e : a.length = b.length
    ·simp [e]
    ·have : ¬ (a.length : Int) = (b.length : Int) := by omega
     simp [e, this]
   rw [this]
   exact Ev.now _

/-- the product, or no answer -/
noncomputable def mulR (a b : List Int) : List Int × Bool := if both a b = true then (a.map (fun x => rd b x), true) else ([], false)

theorem pm_map {n : Nat} {f g : Nat → Nat} (hf : ∀ i, i < n → f i < n) : (pm n f).map (fun x => rd (pm n g) x) = pm n fun i => g (f i) := by
 unfold pm
 rw [List.map_map]
 apply List.map_congr_left
 intro i hi
 show rd (pm n g) ((f i : Nat) : Int) = _
 rw [rd_pm (hf i (by simpa using hi))]

theorem specMul_ev {a b : List Int} (ha : a.length ≤ 4294967296) (hb : b.length ≤ 4294967296) : Ev (fun k => spec_PermMul.f k a b) (mulR a b) := by
 unfold spec_PermMul.f mulR
 refine Ev.bind1 (l1Both_ev ha hb) ?_
 by_cases c : both a b = true
 ·rw [if_pos c]
  refine Ev.pos c ?_
  obtain ⟨n, f, g, hf, hg⟩ := (both_iff a b).1 c
  rw [hf.2.2.2, hg.2.2.2, pm_map hf.2.2.1.1]
  exact Ev.bind1 (l1Mul_ev (by have := hf.2.1; omega) hf.2.2.1.1) (Ev.now _)
 ·rw [if_neg c]
  exact Ev.neg c (Ev.now _)

theorem implMul_ev (a b : List Int) : Ev (fun k => impl_PermMul.f k a b) (mulR a b) := by
 unfold impl_PermMul.f mulR
 refine Ev.bind1 (implValid_ev a) ?_
 by_cases c : both a b = true
 ·rw [if_pos c]
  obtain ⟨n, f, g, hf, hg⟩ := (both_iff a b).1 c
  have c1 : impl_PermValid.validB a = true := by unfold both at c; simp only [Bool.and_eq_true] at c; exact c.1.1
  have c2 : impl_PermValid.validB b = true := by unfold both at c; simp only [Bool.and_eq_true] at c; exact c.1.2
  have c3 : a.length = b.length := by unfold both at c; simp only [Bool.and_eq_true, decide_eq_true_eq] at c; exact c.2
  refine Ev.pos c1 (Ev.bind1 (implValid_ev b) (Ev.pos c2 (Ev.pos (by omega) ?_)))
  rw [hf.2.2.2, hg.2.2.2, pm_map hf.2.2.1.1]
  exact Ev.bind1 (mul_ev (by have := hf.2.1; omega) hf.2.2.1.1) (Ev.now _)
 ·rw [if_neg c]
  by_cases c1 : impl_PermValid.validB a = true
  ·refine Ev.pos c1 (Ev.bind1 (implValid_ev b) ?_)
   by_cases c2 : impl_PermValid.validB b = true
   ·refine Ev.pos c2 (Ev.neg (fun e => c ?_) (Ev.now _))
    unfold both
    have : a.length = b.length := by omega
    simp [c1, c2, this]
   ·exact Ev.neg c2 (Ev.now _)
  ·exact Ev.neg c1 (Ev.now _)

/-- the way back, or no answer -/
noncomputable def backR (a : List Int) : List Int × Bool := if impl_PermValid.validB a = true then (pm a.length (finv a.length fun i => (rd a (i : Int)).toNat), true) else ([], false)

theorem finv_congr {n : Nat} {f g : Nat → Nat} (h : ∀ i, i < n → f i = g i) : finv n f = finv n g := by
 funext y
 unfold finv
 congr 1
 have : ∀ l : List Nat, (∀ i, i ∈ l → i < n) → l.find? (fun i => f i == y) = l.find? (fun i => g i == y) := by
  intro l
  induction l with
  | nil => intro _; rfl
  | cons a l ih => intro hl; simp only [List.find?_cons]; rw [h a (hl a (by simp)), ih (fun i hi => hl i (by simp [hi]))]
 exact this _ (fun i hi => by simpa using hi)

theorem backR_perm {n : Nat} {a : List Int} {f : Nat → Nat} (h : IsPerm n a f) : backR a = (pm n (finv n f), true) := by
 have e1 : a.length = n := by rw [h.2.2.2, pm_length]
 have v : impl_PermValid.validB a = true := (valid_iff a).2 ⟨f, by rw [e1]; exact h⟩
 unfold backR
 rw [if_pos v, e1]
 congr 2
 apply finv_congr
 intro i hi
 rw [h.2.2.2, rd_pm hi]; simp

theorem implBack_ev (a : List Int) : Ev (fun k => impl_PermBack.f k a) (backR a) := by
 unfold impl_PermBack.f
 refine Ev.bind1 (implValid_ev a) ?_
 by_cases c : impl_PermValid.validB a = true
 ·obtain ⟨f, hf⟩ := (valid_iff a).1 c
  rw [backR_perm hf]
  refine Ev.pos c ?_
  have e := hf.2.2.2
  have : Ev (fun k => impl_back.f k a) (pm a.length (finv a.length f)) := by
   have := back_ev (n := a.length) (f := f) (by have := hf.2.1; omega) hf.2.2.1
   rwa [← e] at this
  exact Ev.bind1 this (Ev.now _)
 ·unfold backR
  rw [if_neg c]
  exact Ev.neg c (Ev.now _)

def ints (l : List Nat) : List Int := l.map fun (x : Nat) => (x : Int)

def cycsTo (n : Nat) (f : Nat → Nat) (i : Nat) : List (List Int) := ((List.range i).filter (isMin n f)).map fun m => ints (cyc n f m)

/-- all cycles, as lists of numbers -/
def cycsL (n : Nat) (f : Nat → Nat) : List (List Int) := cycsTo n f n

theorem cycsL_length (n : Nat) (f : Nat → Nat) : (cycsL n f).length = cc n f := by simp [cycsL, cycsTo, cc]

theorem cycsTo_len (n : Nat) (f : Nat → Nat) (i : Nat) : (cycsTo n f i).length ≤ i := by
 unfold cycsTo
 rw [List.length_map]
 have := List.length_filter_le (isMin n f) (List.range i)
 simpa using this

def seenTo (n : Nat) (f : Nat → Nat) (i : Nat) (s : List Bool) : Prop := s.length = n ∧ ∀ x, x < n → (rdOf false s (x : Int) = true ↔ ∃ j, j < i ∧ orb f j x)

def seenIn (n : Nat) (f : Nat → Nat) (i k : Nat) (s : List Bool) : Prop := s.length = n ∧ ∀ x, x < n → (rdOf false s (x : Int) = true ↔ (∃ j, j < i ∧ orb f j x) ∨ ∃ m, m < k ∧ it f m i = x)

theorem rdOf_set {s : List Bool} {a b : Nat} {v : Bool} (h : a < s.length) : rdOf false (s.set a v) (b : Int) = if a = b then v else rdOf false s (b : Int) := by
 unfold rdOf
 simp only [Int.toNat_natCast, List.getD_eq_getElem?_getD, List.getElem?_set]
 by_cases e : a = b
 ·subst e; simp [h]
 ·simp [e]

theorem seen_start (n : Nat) (f : Nat → Nat) : seenTo n f 0 (List.replicate n false) := by
 refine ⟨by simp, fun x hx => ?_⟩
 unfold rdOf
 constructor
 ·intro h; simp [List.getD_eq_getElem?_getD, hx] at h
 ·rintro ⟨j, hj, _⟩; omega

theorem seen_in {n : Nat} {f : Nat → Nat} {i : Nat} {s : List Bool} (h : seenTo n f i s) : seenIn n f i 0 s :=
 ⟨h.1, fun x hx => by rw [h.2 x hx]; exact ⟨.inl, fun e => e.elim id (fun ⟨m, hm, _⟩ => absurd hm (by omega))⟩⟩

theorem seen_step {n : Nat} {f : Nat → Nat} (hf : Bij n f) {i k : Nat} (hi : i < n) {s : List Bool} (h : seenIn n f i k s) : seenIn n f i (k + 1) (s.set (it f k i) true) := by
 have hk := it_lt hf k hi
 refine ⟨by simp [h.1], fun x hx => ?_⟩
 rw [rdOf_set (by rw [h.1]; exact hk)]
 by_cases e : it f k i = x
 ·rw [if_pos e]
  exact ⟨fun _ => .inr ⟨k, by omega, e⟩, fun _ => rfl⟩
 ·rw [if_neg e, h.2 x hx]
  constructor
  ·rintro (a | ⟨m, hm, b⟩)
   ·exact .inl a
   ·exact .inr ⟨m, by omega, b⟩
  ·rintro (a | ⟨m, hm, b⟩)
   ·exact .inl a
   ·refine .inr ⟨m, ?_, b⟩
    apply Nat.lt_of_le_of_ne (by omega)
    intro d; subst d; exact e b

theorem seen_end {n : Nat} {f : Nat → Nat} (hf : Bij n f) {i : Nat} (hi : i < n) {s : List Bool} (h : seenIn n f i (per n f i) s) : seenTo n f (i + 1) s := by
 refine ⟨h.1, fun x hx => ?_⟩
 rw [h.2 x hx]
 constructor
 ·rintro (⟨j, hj, o⟩ | ⟨m, hm, e⟩)
  ·exact ⟨j, by omega, o⟩
  ·exact ⟨i, by omega, m, e⟩
 ·rintro ⟨j, hj, o⟩
  by_cases e : j = i
  ·subst e
   obtain ⟨m, em⟩ := o
   exact .inr ⟨m % per n f j, Nat.mod_lt _ (per_spec hf hi).1, by rw [← it_mod_per hf hi]; exact em⟩
  ·exact .inl ⟨j, by omega, o⟩

theorem seen_skip {n : Nat} {f : Nat → Nat} (hf : Bij n f) {i : Nat} (hi : i < n) {s : List Bool} (h : seenTo n f i s) (hs : rdOf false s (i : Int) = true) : seenTo n f (i + 1) s := by
 refine ⟨h.1, fun x hx => ?_⟩
 rw [h.2 x hx]
 obtain ⟨j, hj, o⟩ := (h.2 i hi).1 hs
 constructor
 ·rintro ⟨j, hj, o⟩; exact ⟨j, by omega, o⟩
 ·rintro ⟨j', hj', o'⟩
  by_cases e : j' = i
  ·subst e; exact ⟨j, hj, orb_trans o o'⟩
  ·exact ⟨j', by omega, o'⟩

theorem seen_min {n : Nat} {f : Nat → Nat} (hf : Bij n f) {i : Nat} (hi : i < n) {s : List Bool} (h : seenTo n f i s) : rdOf false s (i : Int) = !isMin n f i := by
 rw [Bool.eq_iff_iff, h.2 i hi, Bool.not_eq_true']
 constructor
 ·rintro ⟨j, hj, o⟩
  apply Bool.eq_false_iff.2
  intro m
  exact (isMin_iff' hf hi).1 m j hj o
 ·intro m
  apply Classical.byContradiction
  intro c
  have : isMin n f i = true := (isMin_iff' hf hi).2 fun j hj o => c ⟨j, hj, o⟩
  rw [m] at this; cases this

theorem seen_new {n : Nat} {f : Nat → Nat} (hf : Bij n f) {i k : Nat} (hi : i < n) {s : List Bool} (h : seenIn n f i k s) (hm : isMin n f i = true) (hk : k < per n f i) : rdOf false s (it f k i : Int) = false := by
 apply Bool.eq_false_iff.2
 intro c
 rcases (h.2 _ (it_lt hf k hi)).1 c with ⟨j, hj, o⟩ | ⟨m, hmk, e⟩
 ·exact (isMin_iff' hf hi).1 hm j hj (orb_trans o (orb_symm hf hi ⟨k, rfl⟩))
 ·have := it_inj_per hf hi (by omega) hk e
  omega

theorem seen_old {n : Nat} {f : Nat → Nat} (hf : Bij n f) {i : Nat} (hi : i < n) {s : List Bool} (h : seenIn n f i (per n f i) s) : rdOf false s (it f (per n f i) i : Int) = true := by
 have p := per_spec hf hi
 rw [p.2.2.1]
 exact (h.2 i hi).2 (.inr ⟨0, p.1, rfl⟩)

theorem cycsTo_succ (n : Nat) (f : Nat → Nat) (i : Nat) : cycsTo n f (i + 1) = if isMin n f i = true then cycsTo n f i ++ [ints (cyc n f i)] else cycsTo n f i := by
 unfold cycsTo
 rw [List.range_succ, List.filter_append, List.map_append]
 by_cases c : isMin n f i = true
 ·simp [c]
 ·simp [c]

def cycTo (f : Nat → Nat) (i k : Nat) : List Int := ints ((List.range k).map fun m => it f m i)

theorem cycTo_succ (f : Nat → Nat) (i k : Nat) : cycTo f i (k + 1) = cycTo f i k ++ [(it f k i : Int)] := by simp [cycTo, ints, List.range_succ]

theorem cycTo_len (f : Nat → Nat) (i k : Nat) : (cycTo f i k).length = k := by simp [cycTo, ints]

theorem implCycles_ev {n : Nat} {f : Nat → Nat} (hn : n ≤ 1000) (hf : Bij n f) : Ev (fun k => impl_cyclesOf.f k (pm n f)) (cycsL n f) := by
 have outer : ∀ d i (s : List Bool), i + d = n → seenTo n f i s → Ev (fun k => impl_cyclesOf.l0 k (pm n f) (cycsTo n f i) s (n : Int) (i : Int)) (cycsL n f) := by
  intro d
  induction d with
  | zero =>
   intro i s hi hs
   have e : i = n := by omega
   subst e
   exact Ev.step (f := fun _ => some (cycsTo i f i)) (fun k => by rw [impl_cyclesOf.l0, if_neg (by omega)]) (Ev.now _)
  | succ d ih =>
   intro i s hi hs
   have hin : i < n := by omega
   have cl := cycsTo_len n f i
   refine Ev.step (f := fun k => impl_cyclesOf.l1 k (pm n f) (cycsTo n f i) s [] (i : Int) (n : Int) (i : Int)) (fun k => by rw [impl_cyclesOf.l0, if_pos (by omega)]) ?_
   by_cases hm : isMin n f i = true
   ·have inner : ∀ e k (s : List Bool), k + e = per n f i → seenIn n f i k s → Ev (fun q => impl_cyclesOf.l1 q (pm n f) (cycsTo n f i) s (cycTo f i k) (it f k i : Int) (n : Int) (i : Int)) (cycsL n f) := by
     intro e
     induction e with
     | zero =>
      intro k s hk hs
      have ek : k = per n f i := by omega
      subst ek
      have p := per_spec hf hin
      have ho := seen_old hf hin hs
      refine Ev.step (f := fun q => impl_cyclesOf.l0 q (pm n f) (cycsTo n f (i + 1)) s (n : Int) ((i + 1 : Nat) : Int)) (fun q => by
       rw [impl_cyclesOf.l1, if_pos (by omega), if_pos (by rw [hs.1]; have := it_lt hf (per n f i) hin; omega), if_pos ho, if_pos (by rw [cycTo_len]; omega), if_pos (by omega), wrap_nat (by omega), cycsTo_succ, if_pos hm]; rfl) ?_
      exact ih (i + 1) s (by omega) (seen_end hf hin hs)
     | succ e ihe =>
      intro k s hk hs
      have hkn := it_lt hf k hin
      have p := per_spec hf hin
      have hnew := seen_new hf hin hs hm (by omega)
      refine Ev.step (f := fun q => impl_cyclesOf.l1 q (pm n f) (cycsTo n f i) (s.set (it f k i) true) (cycTo f i (k + 1)) (it f (k + 1) i : Int) (n : Int) (i : Int)) (fun q => by
       rw [impl_cyclesOf.l1, if_pos (by omega), if_pos (by rw [hs.1]; omega), if_neg (by rw [hnew]; simp), if_pos (by rw [cycTo_len]; omega), if_pos (by rw [pm_length]; omega), rd_pm hkn, cycTo_succ]; rfl) ?_
      exact ihe (k + 1) _ (by omega) (seen_step hf hin hs)
    exact inner (per n f i) 0 s (by omega) (seen_in hs)
   ·have ht : rdOf false s (i : Int) = true := by rw [seen_min hf hin hs]; simp [hm]
    refine Ev.step (f := fun q => impl_cyclesOf.l0 q (pm n f) (cycsTo n f (i + 1)) s (n : Int) ((i + 1 : Nat) : Int)) (fun q => by
     rw [impl_cyclesOf.l1, if_pos (by omega), if_pos (by rw [hs.1]; omega), if_pos ht, if_neg (by simp), wrap_nat (by omega), cycsTo_succ, if_neg hm]) ?_
    exact ih (i + 1) s (by omega) (seen_skip hf hin hs ht)
 unfold impl_cyclesOf.f
 simp only [pm_length]
 refine Ev.pos (by omega) (Ev.pos (by omega) ?_)
 have := outer n 0 _ (by omega) (seen_start n f)
 simpa [cycsTo] using this

noncomputable def signR (a : List Int) : Int := if impl_PermValid.validB a = true then sgn a.length (fun i => (rd a (i : Int)).toNat) else 0

theorem isPerm_rd {n : Nat} {a : List Int} {f : Nat → Nat} (h : IsPerm n a f) : ∀ i, i < n → (rd a (i : Int)).toNat = f i := by
 intro i hi; rw [h.2.2.2, rd_pm hi]; simp

theorem isPerm_len {n : Nat} {a : List Int} {f : Nat → Nat} (h : IsPerm n a f) : a.length = n := by rw [h.2.2.2, pm_length]

theorem isPerm_valid {n : Nat} {a : List Int} {f : Nat → Nat} (h : IsPerm n a f) : impl_PermValid.validB a = true :=
 (valid_iff a).2 ⟨f, by rw [isPerm_len h]; exact h⟩

theorem sgn_congr {n : Nat} {f g : Nat → Nat} (hf : Bij n f) (h : ∀ i, i < n → f i = g i) : sgn n f = sgn n g := by
 unfold sgn; rw [cc_congr hf h]

theorem signR_perm {n : Nat} {a : List Int} {f : Nat → Nat} (h : IsPerm n a f) : signR a = sgn n f := by
 unfold signR
 rw [if_pos (isPerm_valid h), isPerm_len h]
 exact (sgn_congr h.2.2.1 (fun i hi => (isPerm_rd h i hi).symm)).symm

theorem sign_step {n c : Nat} (hn : n ≤ 1000) (hc : c ≤ n) : (Int.tmod (wrap64 ((n : Int) - (c : Int))) 2 = 0) ↔ (n - c) % 2 = 0 := by
 rw [wrap_in (by omega) (by omega), show ((n : Int) - (c : Int)) = ((n - c : Nat) : Int) by omega]
 rw [Int.tmod_eq_emod_of_nonneg (by omega)]
 omega

theorem implSign_ev (a : List Int) : Ev (fun k => impl_PermSign.f k a) (signR a) := by
 unfold impl_PermSign.f
 refine Ev.bind1 (implValid_ev a) ?_
 by_cases c : impl_PermValid.validB a = true
 ·obtain ⟨f, hf⟩ := (valid_iff a).1 c
  have h12 := hf.2.1
  rw [signR_perm hf]
  refine Ev.pos c ?_
  have cy := implCycles_ev (n := a.length) (f := f) (by omega) hf.2.2.1
  rw [← hf.2.2.2] at cy
  refine Ev.bind1 cy ?_
  rw [cycsL_length]
  have le := cc_le a.length f
  unfold sgn
  by_cases d : (a.length - cc a.length f) % 2 = 0
  ·rw [if_pos d]; exact Ev.pos ((sign_step (by omega) le).2 d) (Ev.now _)
  ·rw [if_neg d]; exact Ev.neg (fun e => d ((sign_step (by omega) le).1 e)) (Ev.now _)
 ·unfold signR
  rw [if_neg c]
  exact Ev.neg c (Ev.now _)

noncomputable def conjR (a b : List Int) : List Int × Bool := if both a b = true then (((backR b).1.map (fun x => rd a x)).map (fun x => rd b x), true) else ([], false)

theorem conjR_perm {n : Nat} {a b : List Int} {f g : Nat → Nat} (h : IsPerm n a f) (k : IsPerm n b g) : conjR a b = (pm n (conj n g f), true) := by
 have c : both a b = true := (both_iff a b).2 ⟨n, f, g, h, k⟩
 unfold conjR
 rw [if_pos c, backR_perm k]
 show (((pm n (finv n g)).map fun x => rd a x).map (fun x => rd b x), true) = _
 rw [h.2.2.2, pm_map (finv_bij k.2.2.1).1, k.2.2.2, pm_map (comp_bij (finv_bij k.2.2.1) h.2.2.1).1]
 rfl

theorem implConj_ev (a b : List Int) : Ev (fun k => impl_PermConj.f k a b) (conjR a b) := by
 unfold impl_PermConj.f
 refine Ev.bind1 (implValid_ev a) ?_
 have no : both a b ≠ true → Ev (fun k => impl_PermConj.j0 k a b true) (conjR a b) := fun c => by
  unfold conjR
  rw [if_neg c]
  exact Ev.step (f := fun _ => some ([], false)) (fun k => by rw [impl_PermConj.j0, if_pos rfl]) (Ev.now _)
 by_cases c1 : impl_PermValid.validB a = true
 ·refine Ev.pos c1 (Ev.bind1 (implValid_ev b) ?_)
  by_cases c2 : impl_PermValid.validB b = true
  ·refine Ev.pos c2 ?_
   by_cases c3 : a.length = b.length
   ·have c : both a b = true := by unfold both; simp [c1, c2, c3]
    obtain ⟨n, f, g, hf, hg⟩ := (both_iff a b).1 c
    rw [conjR_perm hf hg]
    have h12 := hf.2.1
    have e : ((a.length : Int) != (b.length : Int)) = false := by simp [c3]
    rw [e]
    refine Ev.step (fun k => by rw [impl_PermConj.j0]) ?_
    refine Ev.neg (by simp) ?_
    rw [hf.2.2.2, hg.2.2.2]
    exact Ev.bind1 (back_ev (by omega) hg.2.2.1) (Ev.bind1 (mul_ev (by omega) (finv_bij hg.2.2.1).1) (Ev.bind1 (mul_ev (by omega) (comp_bij (finv_bij hg.2.2.1) hf.2.2.1).1) (Ev.now _)))
   ·have e : ((a.length : Int) != (b.length : Int)) = true := by
     have : ¬ (a.length : Int) = (b.length : Int) := by omega
     simp [this]
    rw [e]
    exact no (by unfold both; simp [c3])
  ·exact Ev.neg c2 (no (by unfold both; simp [c2]))
 ·exact Ev.neg c1 (no (by unfold both; simp [c1]))

theorem ints_len (l : List Nat) : (ints l).length = l.length := by simp [ints]

theorem ints_rd {l : List Nat} {i : Nat} (h : i < l.length) : rd (ints l) (i : Int) = (l[i] : Int) := by
 rw [rd_get (by rw [ints_len]; exact h)]; simp [ints]

theorem fact_small : ∀ n, n < 13 → fact n ≤ 479001600 := by decide

theorem still_pm {n : Nat} {f : Nat → Nat} {m : Nat} : (pm n (it f m) = pm n fun i => i) ↔ Sm.still n f m = true := by
 rw [pm_ext, still_iff]

noncomputable def orderR (a : List Int) : Int := if impl_PermValid.validB a = true then (ord a.length (fun i => (rd a (i : Int)).toNat) : Int) else -1

theorem it_congr {n : Nat} {f g : Nat → Nat} (hf : Bij n f) (h : ∀ i, i < n → f i = g i) (m : Nat) {x : Nat} (hx : x < n) : it f m x = it g m x := by
 induction m with
 | zero => rfl
 | succ m ih => show f (it f m x) = g (it g m x); rw [← ih, h _ (it_lt hf m hx)]

theorem ord_congr {n : Nat} {f g : Nat → Nat} (hf : Bij n f) (h : ∀ i, i < n → f i = g i) : ord n f = ord n g := by
 unfold ord least
 congr 1
 have : (fun m => Sm.still n f (m + 1)) = fun m => Sm.still n g (m + 1) := by
  funext m
  rw [Bool.eq_iff_iff, still_iff, still_iff]
  exact ⟨fun e x hx => by rw [← it_congr hf h _ hx]; exact e x hx, fun e x hx => by rw [it_congr hf h _ hx]; exact e x hx⟩
 rw [this]

theorem orderR_perm {n : Nat} {a : List Int} {f : Nat → Nat} (h : IsPerm n a f) : orderR a = (ord n f : Int) := by
 unfold orderR
 rw [if_pos (isPerm_valid h), isPerm_len h]
 rw [ord_congr h.2.2.1 (fun i hi => (isPerm_rd h i hi).symm)]

theorem moves_ev {n : Nat} {g : Nat → Nat} (hn : n ≤ 1000) : Ev (fun k => spec_l1Moves.f k (pm n g)) (!decide (pm n g = pm n fun i => i)) := by
 have loop : ∀ d i, i + d = n → (∀ j, j < i → g j = j) → Ev (fun k => spec_l1Moves.l0 k (pm n g) (i : Int)) (!decide (pm n g = pm n fun i => i)) := by
  intro d
  induction d with
  | zero =>
   intro i hi h
   have : pm n g = pm n fun i => i := pm_ext.2 fun j hj => h j (by omega)
   refine Ev.step (f := fun _ => some false) (fun k => by rw [spec_l1Moves.l0, if_neg (by rw [pm_length]; omega)]) ?_
   simp only [this, decide_true, Bool.not_true]
   exact Ev.now _
  | succ d ih =>
   intro i hi h
   by_cases c : g i = i
   ·refine Ev.step (f := fun k => spec_l1Moves.l0 k (pm n g) ((i + 1 : Nat) : Int)) (fun k => by
     rw [spec_l1Moves.l0, if_pos (by rw [pm_length]; omega), if_pos (by omega), rd_pm (by omega), if_pos (by omega), wrap_nat (by omega)]) ?_
    refine ih (i + 1) (by omega) fun j hj => ?_
    by_cases e : j = i
    ·rw [e, c]
    ·exact h j (by omega)
   ·have : ¬ pm n g = pm n fun i => i := fun e => c (pm_ext.1 e i (by omega))
    refine Ev.step (f := fun _ => some true) (fun k => by
     rw [spec_l1Moves.l0, if_pos (by rw [pm_length]; omega), if_pos (by omega), rd_pm (by omega), if_neg (by omega)]) ?_
    simp only [this, decide_false, Bool.not_false]
    exact Ev.now _
 unfold spec_l1Moves.f
 exact loop n 0 (by omega) (fun j hj => absurd hj (by omega))

theorem specOrder_ev {a : List Int} (ha : a.length ≤ 4294967296) : Ev (fun k => spec_PermOrder.f k a) (orderR a) := by
 unfold spec_PermOrder.f
 refine Ev.bind1 (specValid_ev a ha) ?_
 by_cases c : impl_PermValid.validB a = true
 ·obtain ⟨f, hf⟩ := (valid_iff a).1 c
  obtain ⟨n, en⟩ : ∃ n, n = a.length := ⟨_, rfl⟩
  rw [← en] at hf
  have h12 := hf.2.1
  rw [orderR_perm hf]
  refine Ev.pos c ?_
  have o := ord_spec hf.2.2.1
  have fs := fact_small n (by omega)
  have loop : ∀ d m, 0 < m → m + d = ord n f → Ev (fun k => spec_PermOrder.l0 k (pm n f) (m : Int) (pm n (it f m))) (ord n f : Int) := by
   intro d
   induction d with
   | zero =>
    intro m hm hd
    have em : m = ord n f := by omega
    have hs : Sm.still n f m = true := by rw [em]; exact (still_iff n f _).2 o.2.2.1
    refine Ev.step (fun k => by rw [spec_PermOrder.l0]) ?_
    refine Ev.bind1 (moves_ev (by omega)) (Ev.neg (by simp [still_pm.2 hs]) ?_)
    rw [em]; exact Ev.now _
   | succ d ih =>
    intro m hm hd
    have hs : Sm.still n f m = false := o.2.2.2 m hm (by omega)
    have hp : ¬ pm n (it f m) = pm n fun i => i := fun e => by rw [still_pm.1 e] at hs; cases hs
    refine Ev.step (fun k => by rw [spec_PermOrder.l0]) ?_
    refine Ev.bind1 (moves_ev (by omega)) (Ev.pos (by simp [hp]) (Ev.bind1 (l1Mul_ev (by omega) (it_bij hf.2.2.1 m).1) ?_))
    rw [wrap_nat (by omega)]
    exact ih (m + 1) (by omega) (by omega)
  have := loop (ord n f - 1) 1 (by omega) (by omega)
  rw [hf.2.2.2]
  exact this
 ·unfold orderR
  rw [if_neg c]
  exact Ev.neg c (Ev.now _)

theorem clone_ev {a : List Int} (h : a.length ≤ 1048576) : Ev (fun _ => slices_Clone_int_int.f a) a := by
 unfold slices_Clone_int_int.f
 exact Ev.pos (by omega) (Ev.now _)

theorem implOrder_ev (a : List Int) : Ev (fun k => impl_PermOrder.f k a) (orderR a) := by
 unfold impl_PermOrder.f
 refine Ev.bind1 (implValid_ev a) ?_
 by_cases c : impl_PermValid.validB a = true
 ·obtain ⟨f, hf⟩ := (valid_iff a).1 c
  obtain ⟨n, en⟩ : ∃ n, n = a.length := ⟨_, rfl⟩
  rw [← en] at hf
  have h12 := hf.2.1
  rw [orderR_perm hf]
  refine Ev.pos c (Ev.bind1 (clone_ev (by omega)) ?_)
  have o := ord_spec hf.2.2.1
  have fs := fact_small n (by omega)
  have loop : ∀ d m, 0 < m → m + d = ord n f → Ev (fun k => impl_PermOrder.l0 k (pm n f) (pm n (it f m)) (m : Int)) (ord n f : Int) := by
   intro d
   induction d with
   | zero =>
    intro m hm hd
    have em : m = ord n f := by omega
    have hs : Sm.still n f m = true := by rw [em]; exact (still_iff n f _).2 o.2.2.1
    refine Ev.step (fun k => by rw [impl_PermOrder.l0]) ?_
    rw [pm_length]
    refine Ev.bind1 (still_ev (by omega)) (Ev.bind1 (equal_ev (by rw [pm_length]; omega)) (Ev.pos (by simp [still_pm.2 hs]) ?_))
    rw [em]; exact Ev.now _
   | succ d ih =>
    intro m hm hd
    have hs : Sm.still n f m = false := o.2.2.2 m hm (by omega)
    have hp : ¬ pm n (it f m) = pm n fun i => i := fun e => by rw [still_pm.1 e] at hs; cases hs
    refine Ev.step (fun k => by rw [impl_PermOrder.l0]) ?_
    rw [pm_length]
    refine Ev.bind1 (still_ev (by omega)) (Ev.bind1 (equal_ev (by rw [pm_length]; omega)) (Ev.neg (by simp [hp]) (Ev.bind1 (mul_ev (by omega) (it_bij hf.2.2.1 m).1) ?_)))
    rw [wrap_nat (by omega)]
    exact ih (m + 1) (by omega) (by omega)
  have := loop (ord n f - 1) 1 (by omega) (by omega)
  rw [hf.2.2.2]
  exact this
 ·unfold orderR
  rw [if_neg c]
  exact Ev.neg c (Ev.now _)

def pw (n : Nat) (f : Nat → Nat) (k : Int) : Nat → Nat := if k < 0 then it (finv n f) (-k).toNat else it f k.toNat

noncomputable def powerR (a : List Int) (k : Int) : List Int × Bool := if impl_PermValid.validB a = true ∧ -1000 ≤ k ∧ k ≤ 1000 then (pm a.length (pw a.length (fun i => (rd a (i : Int)).toNat) k), true) else ([], false)

theorem pw_congr {n : Nat} {f g : Nat → Nat} (hf : Bij n f) (h : ∀ i, i < n → f i = g i) (k : Int) : ∀ x, x < n → pw n f k x = pw n g k x := by
 intro x hx
 unfold pw
 rw [finv_congr h]
 split
 ·rfl
 ·exact it_congr hf h _ hx

theorem powerR_perm {n : Nat} {a : List Int} {f : Nat → Nat} (h : IsPerm n a f) (k : Int) (h1 : -1000 ≤ k) (h2 : k ≤ 1000) : powerR a k = (pm n (pw n f k), true) := by
 unfold powerR
 rw [if_pos ⟨isPerm_valid h, h1, h2⟩, isPerm_len h]
 congr 1
 rw [pm_ext]
 intro i hi
 exact (pw_congr h.2.2.1 (fun i hi => (isPerm_rd h i hi).symm) k i hi).symm

theorem powerR_no {a : List Int} {k : Int} (h : ¬ (impl_PermValid.validB a = true ∧ -1000 ≤ k ∧ k ≤ 1000)) : powerR a k = ([], false) := by
 unfold powerR; rw [if_neg h]

theorem implPower_ev (a : List Int) (k : Int) : Ev (fun q => impl_PermPower.f q a k) (powerR a k) := by
 unfold impl_PermPower.f
 refine Ev.bind1 (implValid_ev a) ?_
 have no : powerR a k = ([], false) → Ev (fun q => impl_PermPower.j0 q a k true) (powerR a k) := fun e => by
  rw [e]
  exact Ev.step (f := fun _ => some ([], false)) (fun k => by rw [impl_PermPower.j0, if_pos rfl]) (Ev.now _)
 by_cases c : impl_PermValid.validB a = true
 ·refine Ev.pos c ?_
  by_cases c1 : k < -1000
  ·exact Ev.pos c1 (no (powerR_no (by omega)))
  ·refine Ev.neg c1 ?_
   by_cases c2 : k > 1000
   ·have e : decide (k > 1000) = true := decide_eq_true c2
    rw [e]
    exact no (powerR_no (by omega))
   ·have e : decide (k > 1000) = false := decide_eq_false c2
    rw [e]
    obtain ⟨f, hf⟩ := (valid_iff a).1 c
    obtain ⟨n, en⟩ : ∃ n, n = a.length := ⟨_, rfl⟩
    rw [← en] at hf
    have h12 := hf.2.1
    rw [powerR_perm hf k (by omega) (by omega)]
    refine Ev.step (fun q => by rw [impl_PermPower.j0]) ?_
    refine Ev.neg (by simp) ?_
    rw [hf.2.2.2, pm_length]
    by_cases c3 : k < 0
    ·refine Ev.pos c3 (Ev.bind1 (back_ev (by omega) hf.2.2.1) (Ev.bind1 (still_ev (by omega)) ?_))
     obtain ⟨m, em⟩ : ∃ m : Nat, (m : Int) = -k := ⟨(-k).toNat, by omega⟩
     have hb := finv_bij hf.2.2.1
     have loop : ∀ d i, i + d = m → Ev (fun q => impl_PermPower.l0 q (pm n (finv n f)) (pm n (it (finv n f) i)) (m : Int) (i : Int)) (pm n (it (finv n f) m), true) := by
      intro d
      induction d with
      | zero =>
       intro i hi
       have e : i = m := by omega
       subst e
       exact Ev.step (f := fun _ => some (pm n (it (finv n f) i), true)) (fun q => by rw [impl_PermPower.l0, if_neg (by omega)]) (Ev.now _)
      | succ d ih =>
       intro i hi
       refine Ev.step (fun q => by rw [impl_PermPower.l0]) (Ev.pos (by omega) (Ev.bind1 (mul_ev (by omega) (it_bij hb i).1) ?_))
       rw [wrap_nat (by omega)]
       exact ih (i + 1) (by omega)
     rw [wrap_in (by omega) (by omega), ← em]
     have := loop m 0 (by omega)
     have ep : pw n f k = it (finv n f) m := by
      unfold pw; rw [if_pos c3, show (-k).toNat = m by omega]
     rw [ep]
     exact this
    ·refine Ev.neg c3 (Ev.bind1 (still_ev (by omega)) ?_)
     obtain ⟨m, em⟩ : ∃ m : Nat, (m : Int) = k := ⟨k.toNat, by omega⟩
     have loop : ∀ d i, i + d = m → Ev (fun q => impl_PermPower.l1 q (pm n f) (pm n (it f i)) (m : Int) (i : Int)) (pm n (it f m), true) := by
      intro d
      induction d with
      | zero =>
       intro i hi
       have e : i = m := by omega
       subst e
       exact Ev.step (f := fun _ => some (pm n (it f i), true)) (fun q => by rw [impl_PermPower.l1, if_neg (by omega)]) (Ev.now _)
      | succ d ih =>
       intro i hi
       refine Ev.step (fun q => by rw [impl_PermPower.l1]) (Ev.pos (by omega) (Ev.bind1 (mul_ev (by omega) (it_bij hf.2.2.1 i).1) ?_))
       rw [wrap_nat (by omega)]
       exact ih (i + 1) (by omega)
     have := loop m 0 (by omega)
     have ep : pw n f k = it f m := by
      unfold pw; rw [if_neg c3, show k.toNat = m by omega]
     rw [ep, ← em]
     exact this
 ·exact Ev.neg c (no (powerR_no (fun e => c e.1)))

theorem isPerm_same {n m : Nat} {a : List Int} {f g : Nat → Nat} (h : IsPerm n a f) (k : IsPerm m a g) : m = n ∧ ∀ i, i < n → g i = f i := by
 have e : m = n := by rw [← isPerm_len h, isPerm_len k]
 subst e
 exact ⟨rfl, fun i hi => by rw [← isPerm_rd h i hi, isPerm_rd k i hi]⟩

theorem rd_mid (A : List Int) (x : Int) (T : List Int) : rd (A ++ x :: T) (A.length : Int) = x := by
 unfold rd; simp [List.getD_eq_getElem?_getD]

theorem set_mid (A : List Int) (x v : Int) (T : List Int) : (A ++ x :: T).set A.length v = A ++ v :: T := by simp

theorem set_two (A : List Int) (y x u v : Int) (T : List Int) : ((A ++ y :: x :: T).set (A.length + 1) u).set A.length v = A ++ v :: u :: T := by
 have h := set_mid (A ++ [y]) x u T
 simp only [List.append_assoc, List.singleton_append, List.length_append, List.length_singleton] at h
 rw [h, set_mid]

theorem less_ev (x y : Int) : Ev (fun _ => cmp_Less_int.f x y) (decide (x < y)) := by
 unfold cmp_Less_int.f cmp_isNaN_int.f
 refine Ev.some1 (Ev.neg (by simp) (Ev.now _))

def Asc (l : List Int) : Prop := l.Pairwise (· ≤ ·)

theorem sort_inner {a2 i : Int} {T : List Int} {l : List Int} (hl : l.length ≤ 1000) (cont : ∀ C, Asc C → C.length = i.toNat + 1 → (C ++ T).Perm l → ∃ r, Ev (fun k => slices_insertionSortOrdered_int.l0 k (C ++ T) 0 a2 (wrap64 (i + 1))) r ∧ Asc r ∧ r.Perm l) :
 ∀ n (A : List Int), A.length = n → ∀ x B, Asc (A ++ B) → (∀ b ∈ B, x ≤ b) → A.length + B.length = i.toNat → (A ++ x :: B ++ T).Perm l →
  ∃ r, Ev (fun k => slices_insertionSortOrdered_int.l1 k (A ++ x :: B ++ T) 0 a2 i (A.length : Int)) r ∧ Asc r ∧ r.Perm l := by
 intro n
 induction n with
 | zero =>
  intro A hA x B hs hx hi hp
  obtain rfl : A = [] := List.length_eq_zero_iff.1 hA
  obtain ⟨r, er, hr⟩ := cont (x :: B) (List.pairwise_cons.2 ⟨hx, by unfold Asc at hs; simpa using hs⟩) (by simp at hi; simp; omega) (by simpa using hp)
  exact ⟨r, Ev.step (fun k => by rw [slices_insertionSortOrdered_int.l1]) (Ev.neg (by simp) (by simpa using er)), hr⟩
 | succ n ih =>
  intro A hA x B hs hx hi hp
  obtain ⟨A', y, rfl⟩ : ∃ A' y, A = A' ++ [y] := by
   rcases List.eq_nil_or_concat A with h | ⟨A', y, h⟩
   ·rw [h] at hA; simp at hA
   ·exact ⟨A', y, by rw [h]; simp⟩
  have hA' : A'.length = n := by simpa using hA
  have hlen : (A' ++ [y] ++ x :: B ++ T).length ≤ 1000 := by rw [hp.length_eq]; exact hl
  have hln : A'.length + 2 + B.length + T.length ≤ 1000 := by simp at hlen; omega
  have w1 : wrap64 (((A' ++ [y]).length : Int) - 1) = (A'.length : Int) := by
   rw [wrap_in (by simp <;> omega) (by simp <;> omega)]; simp
  have e0 : A' ++ [y] ++ x :: B ++ T = A' ++ y :: x :: (B ++ T) := by simp
  have r1 : rd (A' ++ [y] ++ x :: B ++ T) ((A' ++ [y]).length : Int) = x := by
   have := rd_mid (A' ++ [y]) x (B ++ T)
   simpa using this
  have r0 : rd (A' ++ [y] ++ x :: B ++ T) (A'.length : Int) = y := by rw [e0]; exact rd_mid A' y _
  have st : ∀ Res, Ev (fun k => if decide (x < y) = true then slices_insertionSortOrdered_int.l1 k (((A' ++ [y] ++ x :: B ++ T).set ((A' ++ [y]).length : Int).toNat y).set (A'.length : Int).toNat x) 0 a2 i (A'.length : Int) else slices_insertionSortOrdered_int.l0 k (A' ++ [y] ++ x :: B ++ T) 0 a2 (wrap64 (i + 1))) Res → Ev (fun k => slices_insertionSortOrdered_int.l1 k (A' ++ [y] ++ x :: B ++ T) 0 a2 i ((A' ++ [y]).length : Int)) Res := by
   intro Res h
   refine Ev.step (fun k => by rw [slices_insertionSortOrdered_int.l1, w1, r1, r0]) ?_
   refine Ev.pos (by simp <;> omega) (Ev.pos (by omega) (Ev.pos (by simp <;> omega) (Ev.pos (by omega) (Ev.pos (by simp <;> omega) ?_))))
   exact Ev.bind1 (less_ev x y) h
  by_cases c : x < y
  ·have e1 : ((A' ++ [y] ++ x :: B ++ T).set ((A' ++ [y]).length : Int).toNat y).set (A'.length : Int).toNat x = A' ++ x :: (y :: B) ++ T := by
    rw [e0, show ((A' ++ [y]).length : Int).toNat = A'.length + 1 by simp, Int.toNat_natCast, set_two]
    simp
   have hp' : (A' ++ x :: (y :: B) ++ T).Perm l := by
    refine List.Perm.trans ?_ hp
    rw [e0]
    have : A' ++ x :: (y :: B) ++ T = A' ++ (x :: y :: (B ++ T)) := by simp
    rw [this]
    exact List.Perm.append_left A' (List.Perm.swap y x _)
   obtain ⟨r, er, hr⟩ := ih A' hA' x (y :: B) (by simpa using hs) (by
    intro b hb
    rcases List.mem_cons.1 hb with rfl | hb
    ·omega
    ·exact hx b hb) (by simp at hi ⊢; omega) hp'
   refine ⟨r, st r (Ev.pos (decide_eq_true c) ?_), hr⟩
   rw [e1]; exact er
  ·have hs2 : Asc (A' ++ [y] ++ x :: B) := by
    unfold Asc at hs ⊢
    rw [List.pairwise_append] at hs ⊢
    obtain ⟨p1, p2, p3⟩ := hs
    refine ⟨p1, List.pairwise_cons.2 ⟨hx, p2⟩, ?_⟩
    intro a ha b hb
    rcases List.mem_cons.1 hb with rfl | hb
    ·have hay : a ≤ y := by
      rw [List.pairwise_append] at p1
      rcases List.mem_append.1 ha with h | h
      ·exact p1.2.2 a h y (by simp)
      ·simp at h; omega
     omega
    ·exact p3 a ha b hb
   obtain ⟨r, er, hr⟩ := cont (A' ++ [y] ++ x :: B) hs2 (by simp at hi ⊢; omega) hp
   exact ⟨r, st r (Ev.neg (by simpa using c) er), hr⟩

theorem sort_outer {l : List Int} (hl : l.length ≤ 1000) : ∀ d i, i + d = l.length → 1 ≤ i → ∀ C T : List Int, C.length = i → Asc C → (C ++ T).Perm l →
 ∃ r, Ev (fun k => slices_insertionSortOrdered_int.l0 k (C ++ T) 0 (l.length : Int) (i : Int)) r ∧ Asc r ∧ r.Perm l := by
 intro d
 induction d with
 | zero =>
  intro i hi h1 C T hC hs hp
  have hT : T = [] := by
   have := hp.length_eq
   rw [List.length_append] at this
   exact List.length_eq_zero_iff.1 (by omega)
  subst hT
  refine ⟨C ++ [], Ev.step (f := fun _ => some (C ++ [])) (fun k => by rw [slices_insertionSortOrdered_int.l0, if_neg (by omega)]) (Ev.now _), by simpa using hs, hp⟩
 | succ d ih =>
  intro i hi h1 C T hC hs hp
  obtain ⟨x, T, rfl⟩ : ∃ x T', T = x :: T' := by
   cases T with
   | nil => have := hp.length_eq; rw [List.length_append] at this; simp at this; omega
   | cons x T' => exact ⟨x, T', rfl⟩
  obtain ⟨r, er, hr⟩ := sort_inner (a2 := (l.length : Int)) (i := (i : Int)) (T := T) hl (fun D hD hl' hp' => by
   have := ih (i + 1) (by omega) (by omega) D T (by simpa using hl') hD hp'
   rw [wrap_nat (by omega)]
   exact this) C.length C rfl x [] (by simpa using hs) (by simp) (by simp; omega) (by simpa using hp)
  refine ⟨r, Ev.step (fun k => by rw [slices_insertionSortOrdered_int.l0]) (Ev.pos (by omega) ?_), hr⟩
  rw [hC] at er
  simpa using er

/-- a list of at most twelve numbers, sorted -/
theorem sort_ev {l : List Int} (hl : l.length ≤ 12) : ∃ r, Ev (fun k => slices_Sort_int_int.f k l) r ∧ Asc r ∧ r.Perm l := by
 obtain ⟨r, er, hs, hp⟩ : ∃ r, Ev (fun k => slices_insertionSortOrdered_int.l0 k l 0 (l.length : Int) 1) r ∧ Asc r ∧ r.Perm l := by
  cases l with
  | nil => exact ⟨[], Ev.step (f := fun _ => some []) (fun k => by rw [slices_insertionSortOrdered_int.l0, if_neg (by simp)]) (Ev.now _), List.Pairwise.nil, List.Perm.refl _⟩
  | cons x T =>
   have := sort_outer (l := x :: T) (by omega) T.length 1 (by simp; omega) (by omega) [x] T rfl (by simp [Asc]) (by simp)
   simpa using this
 have e1 : Ev (fun k => slices_insertionSortOrdered_int.f k l 0 (l.length : Int)) r := by
  unfold slices_insertionSortOrdered_int.f
  rw [show wrap64 (0 + 1) = 1 by rw [wrap_in (by omega) (by omega)]; rfl]
  exact er
 have w : wrap64 ((l.length : Int) - 0) ≤ 12 := by rw [wrap_in (by omega) (by omega)]; omega
 have e2 : ∀ z, Ev (fun k => slices_pdqsortOrdered_int.f k l 0 (l.length : Int) z) r := fun z =>
  Ev.step (fun k => by rw [slices_pdqsortOrdered_int.f]) (Ev.step (fun k => by rw [slices_pdqsortOrdered_int.l0]) (Ev.pos w (Ev.bind1 e1 (Ev.now _))))
 have u : IntKind.u64.wrap (l.length : Int) = (l.length : Int) := by
  simp [IntKind.wrap, IntKind.bits, IntKind.signed]
  omega
 have e3 : ∃ z, Ev (fun _ => bits_Len.f (IntKind.u64.wrap (l.length : Int))) z := by
  rw [u]
  unfold bits_Len.f bits_Len64.f
  rw [if_pos (by omega)]
  exact ⟨_, Ev.some1 (Ev.now _)⟩
 obtain ⟨z, e3⟩ := e3
 refine ⟨r, ?_, hs, hp⟩
 unfold slices_Sort_int_int.f
 exact Ev.bind1 e3 (Ev.bind1 (e2 z) (Ev.now _))

theorem reverse_loop : ∀ n (M : List Int), M.length = n → ∀ A B : List Int, A.length + n + B.length ≤ 1000 →
 Ev (fun k => slices_Reverse_int_int.l0 k (A ++ M ++ B) (A.length : Int) ((A.length : Int) + (n : Int) - 1)) (A ++ M.reverse ++ B) := by
 intro n
 induction n using Nat.strongRecOn with
 | _ n ih =>
  intro M hM A B hb
  by_cases c : n ≤ 1
  ·have hr : M.reverse = M := by
    match M, hM with
    | [], _ => rfl
    | [x], _ => rfl
    | x :: y :: t, h => simp at h; omega
   rw [hr]
   exact Ev.step (f := fun _ => some (A ++ M ++ B)) (fun k => by rw [slices_Reverse_int_int.l0, if_neg (by omega)]) (Ev.now _)
  ·obtain ⟨x, M1, rfl⟩ : ∃ x M1, M = x :: M1 := by
    cases M with
    | nil => simp at hM; omega
    | cons x M1 => exact ⟨x, M1, rfl⟩
   obtain ⟨M2, y, rfl⟩ : ∃ M2 y, M1 = M2 ++ [y] := by
    rcases List.eq_nil_or_concat M1 with h | ⟨A', y, h⟩
    ·rw [h] at hM; simp at hM; omega
    ·exact ⟨A', y, by rw [h]; simp⟩
   have hn : M2.length + 2 = n := by simp at hM; omega
   have j0 : (A.length : Int) + (n : Int) - 1 = ((A.length + 1 + M2.length : Nat) : Int) := by omega
   rw [j0]
   have rx : rd (A ++ x :: (M2 ++ [y]) ++ B) (A.length : Int) = x := by
    have := rd_mid A x (M2 ++ [y] ++ B); simpa using this
   have ry : rd (A ++ x :: (M2 ++ [y]) ++ B) ((A.length + 1 + M2.length : Nat) : Int) = y := by
    have := rd_mid (A ++ x :: M2) y B
    simp only [List.length_append, List.length_cons] at this
    rw [show A.length + 1 + M2.length = A.length + (M2.length + 1) by omega]
    simpa using this
   have s1 : (A ++ x :: (M2 ++ [y]) ++ B).set A.length y = A ++ y :: (M2 ++ [y] ++ B) := by
    simp
   have s2 : (A ++ y :: (M2 ++ [y] ++ B)).set (A.length + 1 + M2.length) x = (A ++ [y]) ++ M2 ++ (x :: B) := by
    rw [show A.length + 1 + M2.length = A.length + (M2.length + 1) by omega]
    simp
   have w1 : wrap64 (((A.length + 1 + M2.length : Nat) : Int) - 1) = ((A ++ [y]).length : Int) + (M2.length : Int) - 1 := by
    rw [wrap_in (by omega) (by omega)]; (simp <;> omega)
   have := ih M2.length (by omega) M2 rfl (A ++ [y]) (x :: B) (by simp; omega)
   refine Ev.step (fun k => by rw [slices_Reverse_int_int.l0, rx, ry]) ?_
   refine Ev.pos (by omega) (Ev.pos (by omega) (Ev.pos (by simp; omega) (Ev.pos (by omega) (Ev.pos (by simp; omega) ?_))))
   rw [Int.toNat_natCast, Int.toNat_natCast, s1, s2, wrap_nat (by omega), w1, show ((A.length + 1 : Nat) : Int) = ((A ++ [y]).length : Int) by simp]
   have er : A ++ (x :: (M2 ++ [y])).reverse ++ B = (A ++ [y]) ++ M2.reverse ++ (x :: B) := by simp
   rw [er]
   exact this

theorem reverse_ev {l : List Int} (hl : l.length ≤ 1000) : Ev (fun k => slices_Reverse_int_int.f k l) l.reverse := by
 have := reverse_loop l.length l rfl [] [] (by simpa using hl)
 unfold slices_Reverse_int_int.f
 rw [wrap_in (by omega) (by omega)]
 simpa using this

def typeTo (g : Nat → Nat) : Nat → List Int
 | 0 => []
 | L + 1 => List.replicate (g (L + 1)) ((L + 1 : Nat) : Int) ++ typeTo g L

def typeL (n : Nat) (f : Nat → Nat) : List Int := typeTo (cl n f) n

theorem mem_typeTo {g : Nat → Nat} : ∀ {m : Nat} {x : Int}, x ∈ typeTo g m → 1 ≤ x ∧ x ≤ m
 | 0, x, h => by simp [typeTo] at h
 | m + 1, x, h => by
  simp only [typeTo, List.mem_append, List.mem_replicate] at h
  rcases h with ⟨_, rfl⟩ | h
  ·omega
  ·have := mem_typeTo h; omega

theorem typeTo_desc (g : Nat → Nat) : ∀ m, (typeTo g m).Pairwise (· ≥ ·)
 | 0 => List.Pairwise.nil
 | m + 1 => by
  simp only [typeTo]
  rw [List.pairwise_append]
  refine ⟨?_, typeTo_desc g m, ?_⟩
  ·rw [List.pairwise_replicate]; right; exact Int.le_refl _
  ·intro a ha b hb
   rw [List.mem_replicate] at ha
   have := mem_typeTo hb
   rw [ha.2]
   show b ≤ _
   omega

theorem count_typeTo (g : Nat → Nat) : ∀ m (L : Nat), List.count (L : Int) (typeTo g m) = if 1 ≤ L ∧ L ≤ m then g L else 0
 | 0, L => by simp [typeTo]; omega
 | m + 1, L => by
  simp only [typeTo, List.count_append, List.count_replicate, count_typeTo g m L]
  by_cases c : L = m + 1
  ·subst c; simp; intro hh; omega
  ·have : ¬ ((m + 1 : Nat) : Int) = (L : Int) := by omega
   rw [if_neg (by simpa using this)]
   by_cases d : 1 ≤ L ∧ L ≤ m
   ·rw [if_pos d, if_pos (by omega)]; simp
   ·rw [if_neg d, if_neg (by omega)]

theorem count_typeTo_neg (g : Nat → Nat) (m : Nat) (x : Int) (hx : x ≤ 0) : List.count x (typeTo g m) = 0 :=
 List.count_eq_zero.2 fun h => by have := mem_typeTo h; omega

def lens (n : Nat) (f : Nat → Nat) : List Int := (cycsL n f).map fun c => (c.length : Int)

theorem cycsL_mins (n : Nat) (f : Nat → Nat) : cycsL n f = (mins n f).map fun m => ints (cyc n f m) := rfl

theorem lens_mins (n : Nat) (f : Nat → Nat) : lens n f = (mins n f).map fun m => ((per n f m : Nat) : Int) := by
 unfold lens
 rw [cycsL_mins, List.map_map]
 apply List.map_congr_left
 intro a _
 simp [ints_len, cyc_length]

theorem lens_count {n : Nat} {f : Nat → Nat} (L : Nat) : List.count (L : Int) (lens n f) = cl n f L := by
 rw [lens_mins]
 unfold cl
 rw [List.count_eq_countP, List.countP_map]
 apply countP_congr'
 intro a _
 show ((per n f a : Int) == (L : Int)) = (per n f a == L)
 rw [Bool.eq_iff_iff]
 simp; omega

theorem lens_perm {n : Nat} {f : Nat → Nat} (h : Bij n f) : (typeL n f).Perm (lens n f) := by
 rw [List.perm_iff_count]
 intro x
 by_cases hx : x ≤ 0
 ·unfold typeL
  rw [count_typeTo_neg _ _ _ hx]
  symm
  rw [List.count_eq_zero, lens_mins]
  intro hm
  rw [List.mem_map] at hm
  obtain ⟨a, ha, rfl⟩ := hm
  have := (per_spec h (mem_mins.1 ha).1).1
  omega
 ·obtain ⟨L, rfl⟩ : ∃ L : Nat, x = L := ⟨x.toNat, by omega⟩
  unfold typeL
  rw [count_typeTo, lens_count]
  by_cases d : 1 ≤ L ∧ L ≤ n
  ·rw [if_pos d]
  ·rw [if_neg d]
   symm
   unfold cl
   rw [List.countP_eq_zero]
   intro a ha
   have := per_spec h (mem_mins.1 ha).1
   simp; omega

theorem type_unique {n : Nat} {f : Nat → Nat} (h : Bij n f) {r : List Int} (hs : Asc r) (hp : r.Perm (lens n f)) : r.reverse = typeL n f := by
 refine List.Perm.eq_of_pairwise (le := fun a b : Int => a ≥ b) (fun a b _ _ h1 h2 => Int.le_antisymm h2 h1) ?_ (typeTo_desc _ _) ?_
 ·rw [List.pairwise_reverse]; exact hs
 ·exact (List.reverse_perm r).trans (hp.trans (lens_perm h).symm)

theorem lens_len (n : Nat) (f : Nat → Nat) : (lens n f).length = cc n f := by simp [lens, cycsL_length]

theorem typeL_len {n : Nat} {f : Nat → Nat} (h : Bij n f) : (typeL n f).length = cc n f := by rw [(lens_perm h).length_eq, lens_len]

theorem rdL1_get {l : List (List Int)} {i : Nat} (h : i < l.length) : rd_L1 l (i : Int) = l[i] := by
 unfold rd_L1; simp [List.getD_eq_getElem?_getD, h]

theorem implType_ev {n : Nat} {f : Nat → Nat} (hn : n ≤ 12) (h : Bij n f) : Ev (fun k => impl_typeOf.f k (pm n f)) (typeL n f) := by
 have hc := cc_le n f
 obtain ⟨r, er, hs, hp⟩ := sort_ev (l := lens n f) (by rw [lens_len]; omega)
 have hr := type_unique h hs hp
 have rl : r.length ≤ 1000 := by rw [hp.length_eq, lens_len]; omega
 have er2 := reverse_ev rl
 rw [hr] at er2
 have loop : ∀ d i, i + d = (cycsL n f).length → Ev (fun k => impl_typeOf.l0 k ((lens n f).take i) (cycsL n f) ((cycsL n f).length : Int) (i : Int)) (typeL n f) := by
  intro d
  have cl_ := cycsL_length n f
  induction d with
  | zero =>
   intro i hi
   refine Ev.step (fun k => by rw [impl_typeOf.l0]) (Ev.neg (by omega) ?_)
   rw [List.take_of_length_le (by rw [lens_len]; omega)]
   exact Ev.bind1 er (Ev.bind1 er2 (Ev.now _))
  | succ d ih =>
   intro i hi
   have hil : i < (cycsL n f).length := by omega
   refine Ev.step (fun k => by rw [impl_typeOf.l0]) ?_
   refine Ev.pos (by omega) (Ev.pos (by omega) (Ev.pos (by omega) (Ev.pos (by rw [List.length_take]; omega) ?_)))
   have e : (lens n f).take i ++ [((rd_L1 (cycsL n f) (i : Int)).length : Int)] = (lens n f).take (i + 1) := by
    rw [List.take_succ_eq_append_getElem (by rw [lens_len]; omega), rdL1_get hil]
    simp [lens]
   rw [e, wrap_nat (by omega)]
   exact ih (i + 1) (by omega)
 unfold impl_typeOf.f
 refine Ev.bind1 (implCycles_ev (by omega) h) ?_
 have := loop (cycsL n f).length 0 (by omega)
 simpa using this

theorem typeTo_congr {g k : Nat → Nat} (h : ∀ L, 0 < L → g L = k L) : ∀ m, typeTo g m = typeTo k m
 | 0 => rfl
 | m + 1 => by simp only [typeTo]; rw [h (m + 1) (by omega), typeTo_congr h m]

theorem typeL_conj {n : Nat} {f g k : Nat → Nat} (hf : Bij n f) (hg : Bij n g) (hk : Bij n k) (e : ∀ x, x < n → k (g x) = g (f x)) : typeL n k = typeL n f := typeTo_congr (fun L hL => cl_conj hf hg hk e hL) n

theorem mulR_perm {n : Nat} {a b : List Int} {f g : Nat → Nat} (h : IsPerm n a f) (k : IsPerm n b g) : mulR a b = (pm n (fun i => g (f i)), true) := by
 unfold mulR
 rw [if_pos ((both_iff a b).2 ⟨n, f, g, h, k⟩), h.2.2.2, k.2.2.2, pm_map h.2.2.1.1]

theorem mul_isPerm {n : Nat} {a b : List Int} {f g : Nat → Nat} (h : IsPerm n a f) (k : IsPerm n b g) : IsPerm n (pm n (fun i => g (f i))) (fun i => g (f i)) := ⟨h.1, h.2.1, comp_bij h.2.2.1 k.2.2.1, rfl⟩

theorem back_isPerm {n : Nat} {a : List Int} {f : Nat → Nat} (h : IsPerm n a f) : IsPerm n (pm n (finv n f)) (finv n f) := ⟨h.1, h.2.1, finv_bij h.2.2.1, rfl⟩

theorem implMul_pm {n : Nat} {a b : List Int} {f g : Nat → Nat} (h : IsPerm n a f) (k : IsPerm n b g) : Ev (fun q => impl_PermMul.f q a b) (pm n (fun i => g (f i)), true) := by
 have := implMul_ev a b; rwa [mulR_perm h k] at this

theorem implBack_pm {n : Nat} {a : List Int} {f : Nat → Nat} (h : IsPerm n a f) : Ev (fun q => impl_PermBack.f q a) (pm n (finv n f), true) := by
 have := implBack_ev a; rwa [backR_perm h] at this

theorem implSign_pm {n : Nat} {a : List Int} {f : Nat → Nat} (h : IsPerm n a f) : Ev (fun q => impl_PermSign.f q a) (sgn n f) := by
 have := implSign_ev a; rwa [signR_perm h] at this

theorem sgn_one (n : Nat) (f : Nat → Nat) : sgn n f = 1 ∨ sgn n f = -1 := by
 unfold sgn
 by_cases d : (n - cc n f) % 2 = 0
 ·rw [if_pos d]; exact .inl rfl
 ·rw [if_neg d]; exact .inr rfl

theorem cycsL_mem {n : Nat} {f : Nat → Nat} {c : List Int} (h : c ∈ cycsL n f) : ∃ m, m < n ∧ isMin n f m = true ∧ c = ints (cyc n f m) := by
 unfold cycsL cycsTo at h
 obtain ⟨m, hm, e⟩ := List.mem_map.1 h
 have := mem_mins.1 hm
 exact ⟨m, this.1, this.2, e.symm⟩

theorem cycsL_len {n : Nat} {f : Nat → Nat} : (cycsL n f).length ≤ n := cycsTo_len n f n

theorem cyc_rd {n : Nat} {f : Nat → Nat} {m i : Nat} (h : i < per n f m) : rd (ints (cyc n f m)) (i : Int) = (it f i m : Int) := by
 rw [ints_rd (by rw [cyc_length]; exact h)]; simp [cyc]

theorem cyc_len {n : Nat} {f : Nat → Nat} {m : Nat} : (ints (cyc n f m)).length = per n f m := by rw [ints_len, cyc_length]

theorem cycsL_eq (n : Nat) (f : Nat → Nat) : cycsL n f = (mins n f).map fun m => ints (cyc n f m) := rfl

theorem implTypeP {n : Nat} {a : List Int} {f : Nat → Nat} (h : IsPerm n a f) : Ev (fun k => impl_PermType.f k a) (typeL n f, true) := by
 have e := implType_ev h.2.1 h.2.2.1
 rw [← h.2.2.2] at e
 exact Ev.bind1 (implValid_ev a) (Ev.pos (isPerm_valid h) (Ev.bind1 e (Ev.now _)))

def lcmTab : List (List Nat) := [[1], [1], [1, 2], [1, 2, 3], [1, 2, 3, 4], [1, 2, 3, 4, 5, 6], [1, 2, 3, 4, 5, 6], [1, 2, 3, 4, 5, 6, 7, 10, 12], [1, 2, 3, 4, 5, 6, 7, 8, 10, 12, 15], [1, 2, 3, 4, 5, 6, 7, 8, 9, 10, 12, 14, 15, 20], [1, 2, 3, 4, 5, 6, 7, 8, 9, 10, 12, 14, 15, 20, 21, 30], [1, 2, 3, 4, 5, 6, 7, 8, 9, 10, 11, 12, 14, 15, 18, 20, 21, 24, 28, 30], [1, 2, 3, 4, 5, 6, 7, 8, 9, 10, 11, 12, 14, 15, 18, 20, 21, 24, 28, 30, 35, 42, 60]]

theorem lcm_step : ∀ s : Fin 13, ∀ p : Fin 13, 0 < p.val → s.val + p.val ≤ 12 → (lcmTab.getD s.val []).all (fun v => (lcmTab.getD (s.val + p.val) []).contains (Nat.lcm v p.val)) = true := by decide +kernel

theorem lcm_small : ∀ s : Fin 13, (lcmTab.getD s.val []).all (fun v => decide (0 < v ∧ v ≤ 60)) = true := by decide +kernel

theorem lcm_in : ∀ l : List Nat, (∀ x ∈ l, 0 < x) → l.sum ≤ 12 → ∃ v, v ∈ lcmTab.getD l.sum [] ∧ ∀ x ∈ l, x ∣ v
 | [], _, _ => ⟨1, by decide, by simp⟩
 | x :: t, h, hs => by
  simp only [List.sum_cons] at hs ⊢
  have hx := h x (by simp)
  obtain ⟨v, hv, hd⟩ := lcm_in t (fun y hy => h y (by simp [hy])) (by omega)
  have st := lcm_step ⟨t.sum, by omega⟩ ⟨x, by omega⟩ hx (by show t.sum + x ≤ 12; omega)
  rw [List.all_eq_true] at st
  have := st v hv
  rw [List.contains_iff_mem] at this
  refine ⟨Nat.lcm v x, by rw [Nat.add_comm x]; exact this, ?_⟩
  intro y hy
  rcases List.mem_cons.1 hy with rfl | hy
  ·exact Nat.dvd_lcm_right v y
  ·exact Nat.dvd_trans (hd y hy) (Nat.dvd_lcm_left v x)

theorem per_sum {n : Nat} {f : Nat → Nat} (h : Bij n f) : ((mins n f).map (per n f)).sum = n := by
 have := flat_length h
 rw [List.length_flatten] at this
 unfold cycs at this
 rw [List.map_map] at this
 have e : (mins n f).map (List.length ∘ cyc n f) = (mins n f).map (per n f) := List.map_congr_left fun a _ => cyc_length n f a
 rw [e] at this
 exact this

theorem ord_le {n : Nat} {f : Nat → Nat} (h : Bij n f) (hn : n ≤ 12) : ord n f ≤ 60 := by
 obtain ⟨v, hv, hd⟩ := lcm_in ((mins n f).map (per n f)) (by
  intro x hx
  rw [List.mem_map] at hx
  obtain ⟨a, ha, rfl⟩ := hx
  exact (per_spec h (mem_mins.1 ha).1).1) (by rw [per_sum h]; exact hn)
 rw [per_sum h] at hv
 have sm := lcm_small ⟨n, by omega⟩
 rw [List.all_eq_true] at sm
 have hv2 := of_decide_eq_true (sm v hv)
 refine Nat.le_trans (ord_least h hv2.1 ((still_per h v).2 fun x hx => ?_)) hv2.2
 obtain ⟨m, hm, mm, om, _⟩ := min_of h hx
 rw [per_orb h hm om]
 exact hd _ (List.mem_map.2 ⟨m, mem_mins.2 ⟨hm, mm⟩, rfl⟩)

def bA (l : List UInt8) : ByteArray := ⟨l.toArray⟩

theorem bA_toList (a : List UInt8) : (bA a).toList = a := ByteArray.toList_mk a

theorem dec1 {n : Nat} (h : n < 10) : Lib.decDigits n = [UInt8.ofNat (48 + n)] := by
 rw [Lib.decDigits, dif_pos h]

theorem dec2 {n : Nat} (h : ¬ n < 10) : Lib.decDigits n = Lib.decDigits (n / 10) ++ [UInt8.ofNat (48 + n % 10)] := by
 rw [Lib.decDigits, dif_neg h]

theorem dec_len {n : Nat} (h : n < 100) : (Lib.decDigits n).length ≤ 2 := by
 by_cases c : n < 10
 ·rw [dec1 c]; simp
 ·rw [dec2 c, dec1 (by omega)]; simp

/-- a row of numbers below a hundred -/
def Low (c : List Int) : Prop := c.length ≤ 12 ∧ ∀ j, j < c.length → ∃ m : Nat, m < 100 ∧ rd c (j : Int) = m

theorem items_len {c : List Int} (h : ∀ x, x ∈ c → ∃ m : Nat, m < 100 ∧ x = m) : ∀ b, (impl_PermText.items b c).length ≤ 3 * c.length := by
 induction c with
 | nil => intro b; simp [impl_PermText.items]
 | cons x t ih =>
  intro b
  obtain ⟨m, hm, rfl⟩ := h x List.mem_cons_self
  have := ih (fun y hy => h y (List.mem_cons_of_mem _ hy)) false
  have := dec_len hm
  simp only [impl_PermText.items, List.length_cons, List.length_append, Int.toNat_natCast]
  omega

theorem Low.mem {c : List Int} (h : Low c) : ∀ x, x ∈ c → ∃ m : Nat, m < 100 ∧ x = m := by
 intro x hx
 obtain ⟨j, hj, e⟩ := List.mem_iff_getElem.1 hx
 obtain ⟨m, hm, e2⟩ := h.2 j hj
 rw [rd_get hj] at e2
 exact ⟨m, hm, by rw [← e, e2]⟩

theorem row_len {c : List Int} (h : Low c) : (impl_PermText.row c).length ≤ 37 := by
 unfold impl_PermText.row
 split
 ·simp
 ·have := items_len h.mem true
  have := h.1
  rw [List.length_append]; simp; omega

theorem txt_len {cs : List (List Int)} (h : ∀ c, c ∈ cs → Low c) : (impl_PermText.txt cs).length ≤ 37 * cs.length := by
 induction cs with
 | nil => simp [impl_PermText.txt]
 | cons c t ih =>
  have := ih fun x hx => h x (List.mem_cons_of_mem _ hx)
  have := row_len (h c List.mem_cons_self)
  simp only [impl_PermText.txt, List.length_append, List.length_cons]
  omega

theorem txt_small {cs : List (List Int)} (h : ∀ c, c ∈ cs → Low c) (hl : cs.length ≤ 12) : impl_PermText.small cs = true := by
 have := txt_len h
 unfold impl_PermText.small
 simp only [Bool.and_eq_true, List.all_eq_true, decide_eq_true_eq]
 refine ⟨fun c hc => ⟨by have := (h c hc).1; omega, fun x hx => ?_⟩, by omega, by omega⟩
 obtain ⟨m, hm, rfl⟩ := (h c hc).mem x hx
 omega

theorem cycsL_low {n : Nat} {f : Nat → Nat} (hn : n ≤ 12) (hb : Bij n f) : ∀ c, c ∈ cycsL n f → Low c := by
 intro c hc
 obtain ⟨m, hm, _, rfl⟩ := cycsL_mem hc
 have p := (per_spec hb hm).2.1
 refine ⟨by rw [cyc_len]; omega, fun j hj => ?_⟩
 rw [cyc_len] at hj
 exact ⟨it f j m, by have := it_lt hb j hm; omega, cyc_rd hj⟩

theorem index_hit1 {c : UInt8} : ∀ {a b : List UInt8}, c ∉ a → Lib.index (a ++ c :: b) [c] = a.length
 | [], b, _ => by unfold Lib.index; simp
 | x :: a, b, h => by
  have hx : ¬ c = x := fun e => h (by simp [e])
  have ih := index_hit1 (a := a) (b := b) (fun m => h (List.mem_cons_of_mem _ m))
  rw [List.cons_append]; unfold Lib.index
  rw [if_neg (by simp [List.isPrefixOf]; exact hx), ih, if_neg (by simp)]
  simp

theorem index_miss1 {c : UInt8} : ∀ {a : List UInt8}, c ∉ a → Lib.index a [c] = -1
 | [], _ => by unfold Lib.index; simp
 | x :: a, h => by
  have hx : ¬ c = x := fun e => h (by simp [e])
  have ih := index_miss1 (a := a) (fun m => h (List.mem_cons_of_mem _ m))
  unfold Lib.index
  rw [if_neg (by simp [List.isPrefixOf]; exact hx), ih]
  simp

theorem cut_hit1 {c : UInt8} {a b : List UInt8} (h : c ∉ a) : Lib.cut (a ++ c :: b) [c] = (a, b, true) := by
 unfold Lib.cut
 rw [index_hit1 h, if_pos (by omega)]
 simp

/-- parts with a comma between each two -/
def joinC : List (List UInt8) → List UInt8
 | [] => []
 | [d] => d
 | d :: e :: t => d ++ 44 :: joinC (e :: t)

theorem splitK_join : ∀ ds : List (List UInt8), ds ≠ [] → (∀ d, d ∈ ds → (44 : UInt8) ∉ d) → Lib.splitK [44] 0 (Lib.count (joinC ds) [44]) (joinC ds) = ds
 | [], h, _ => absurd rfl h
 | [d], _, h => by
  have := index_miss1 (h d (by simp))
  rw [joinC, Lib.count_miss this]; rfl
 | d :: e :: t, _, h => by
  have hd := h d (by simp)
  have hi := index_hit1 (b := joinC (e :: t)) hd
  have ih := splitK_join (e :: t) (by simp) (fun x hx => h x (List.mem_cons_of_mem _ hx))
  rw [joinC, Lib.count_hit (by simp) hi]
  have e1 : (d ++ 44 :: joinC (e :: t)).drop (d.length + [(44 : UInt8)].length) = joinC (e :: t) := by
   rw [show d.length + [(44 : UInt8)].length = d.length + 1 from rfl, ← List.drop_drop]
   simp
  rw [e1, Nat.add_comm 1]
  unfold Lib.splitK
  rw [hi, if_neg (by simp), Int.toNat_natCast, e1, ih]
  simp

/-- the numbers of some words -/
def ptsL (n : Int) : List (List UInt8) → List Int → Option (List Int)
 | [], acc => some acc
 | u :: t, acc => match Lib.atoiAll u with
  | .ok v => if v < 0 then none else if v ≥ n then none else ptsL n t (acc ++ [v])
  | _ => none

theorem pts_eq (n : Int) : ∀ (ws : List ByteArray) (acc : List Int), impl_PermFrom.pts n ws acc = ptsL n (ws.map (·.data.toList)) acc
 | [], acc => rfl
 | u :: t, acc => by
  rw [List.map_cons]
  unfold impl_PermFrom.pts ptsL
  cases Lib.atoiAll u.data.toList with
  | ok v =>
   simp only []
   rw [pts_eq n t]
  | _ => rfl

theorem words_eq (l : List UInt8) : (impl_PermFrom.words l).map (·.data.toList) = Lib.splitK [44] 0 (Lib.count l [44]) l := by
 unfold impl_PermFrom.words
 rw [Lib.splitB_data]

/-- the digits of a number -/
def dg (x : Int) : List UInt8 := Lib.decDigits x.toNat

theorem dg_range {m : Nat} (h : m < 100) : ∀ c, c ∈ dg (m : Int) → 48 ≤ c.toNat ∧ c.toNat ≤ 57 := by
 unfold dg
 rw [Int.toNat_natCast]
 have one : ∀ q : Nat, q < 10 → 48 ≤ (UInt8.ofNat (48 + q)).toNat ∧ (UInt8.ofNat (48 + q)).toNat ≤ 57 := by
  intro q hq
  have : ∀ p : Fin 10, 48 ≤ (UInt8.ofNat (48 + p.val)).toNat ∧ (UInt8.ofNat (48 + p.val)).toNat ≤ 57 := by decide +kernel
  exact this ⟨q, hq⟩
 intro c hc
 by_cases k : m < 10
 ·rw [dec1 k] at hc
  simp only [List.mem_singleton] at hc
  subst hc
  exact one m k
 ·rw [dec2 k, dec1 (n := m / 10) (by omega)] at hc
  simp only [List.mem_append, List.mem_singleton] at hc
  rcases hc with rfl | rfl
  ·exact one _ (by omega)
  ·exact one _ (by omega)

theorem atoi_dg {m : Nat} (h : m < 100) : Lib.atoiAll (dg (m : Int)) = .ok (m : Int) := by
 unfold dg
 rw [Int.toNat_natCast]
 by_cases k : m < 10
 ·rw [dec1 k]
  have : ∀ p : Fin 10, Lib.atoiAll [UInt8.ofNat (48 + p.val)] = .ok (p.val : Int) := by decide +kernel
  exact this ⟨m, k⟩
 ·rw [dec2 k, dec1 (n := m / 10) (by omega)]
  have : ∀ p : Fin 100, Lib.atoiAll ([UInt8.ofNat (48 + p.val / 10)] ++ [UInt8.ofNat (48 + p.val % 10)]) = .ok (p.val : Int) := by decide +kernel
  exact this ⟨m, h⟩

/-- rows of numbers below n -/
def Under (n : Nat) (c : List Int) : Prop := ∀ x, x ∈ c → ∃ m : Nat, m < n ∧ x = m

theorem ptsL_dg {n : Nat} (hn : n ≤ 12) : ∀ (c acc : List Int), Under n c → ptsL n (c.map dg) acc = some (acc ++ c)
 | [], acc, _ => by simp [ptsL]
 | x :: c, acc, h => by
  obtain ⟨m, hm, rfl⟩ := h x (by simp)
  rw [List.map_cons]
  unfold ptsL
  rw [atoi_dg (by omega)]
  simp only []
  rw [if_neg (by omega), if_neg (by omega), ptsL_dg hn c _ (fun y hy => h y (List.mem_cons_of_mem _ hy))]
  simp

theorem items_join : ∀ (c : List Int) (b : Bool), c ≠ [] → impl_PermText.items b c = (if b then 40 else 44) :: joinC (c.map dg)
 | [], _, h => absurd rfl h
 | [x], b, _ => by simp [impl_PermText.items, joinC, dg]
 | x :: y :: t, b, _ => by
  have ih := items_join (y :: t) false (by simp)
  unfold impl_PermText.items
  rw [ih]
  simp [joinC, dg]

theorem joinC_mem {c : UInt8} : ∀ (ds : List (List UInt8)), c ∈ joinC ds → c = 44 ∨ ∃ d, d ∈ ds ∧ c ∈ d
 | [], h => by cases h
 | [d], h => .inr ⟨d, by simp, h⟩
 | d :: e :: t, h => by
  rw [joinC, List.mem_append, List.mem_cons] at h
  rcases h with h | h | h
  ·exact .inr ⟨d, by simp, h⟩
  ·exact .inl h
  ·rcases joinC_mem (e :: t) h with k | ⟨x, hx, k⟩
   ·exact .inl k
   ·exact .inr ⟨x, List.mem_cons_of_mem _ hx, k⟩

theorem under_dg {n : Nat} (hn : n ≤ 12) {c : List Int} (h : Under n c) : ∀ d, d ∈ c.map dg → ∀ b, b ∈ d → 48 ≤ b.toNat ∧ b.toNat ≤ 57 := by
 intro d hd b hb
 obtain ⟨x, hx, rfl⟩ := List.mem_map.1 hd
 obtain ⟨m, hm, rfl⟩ := h x hx
 exact dg_range (by omega) b hb

theorem no41 {n : Nat} (hn : n ≤ 12) {c : List Int} (h : Under n c) : (41 : UInt8) ∉ joinC (c.map dg) := by
 intro k
 rcases joinC_mem _ k with k | ⟨d, hd, k⟩
 ·exact absurd k (by decide)
 ·have := (under_dg hn h d hd _ k).1
  exact absurd this (by decide)

theorem row_join {c : List Int} (hc : 2 ≤ c.length) : impl_PermText.row c = 40 :: joinC (c.map dg) ++ [41] := by
 unfold impl_PermText.row
 rw [if_neg (by omega), items_join c true (by intro e; subst e; simp at hc)]
 rfl

theorem inner_row {n : Nat} (hn : n ≤ 12) {c : List Int} (h : Under n c) (hc : 2 ≤ c.length) (r : List UInt8) : impl_PermFrom.inner (impl_PermText.row c ++ r) = (joinC (c.map dg), r, true) := by
 have e : impl_PermText.row c ++ r = 40 :: (joinC (c.map dg) ++ 41 :: r) := by rw [row_join hc]; simp
 rw [e]
 unfold impl_PermFrom.inner
 have : Lib.trimPrefix (40 :: (joinC (c.map dg) ++ 41 :: r)) [40] = joinC (c.map dg) ++ 41 :: r := by
  simp [Lib.trimPrefix, Lib.hasPrefix]
 rw [this, cut_hit1 (no41 hn h)]

theorem words_row {n : Nat} (hn : n ≤ 12) {c : List Int} (h : Under n c) (hc : 2 ≤ c.length) : (impl_PermFrom.words (joinC (c.map dg))).map (·.data.toList) = c.map dg := by
 rw [words_eq, splitK_join _ (by intro e; have := congrArg List.length e; simp at this; subst this; simp at hc)]
 intro d hd k
 have := (under_dg hn h d hd _ k).1
 exact absurd this (by decide)

theorem splitB_small (sep : ByteArray) : ∀ (k : Nat) (s u : ByteArray), u ∈ Lib.splitB sep 0 k s → u.size ≤ s.size
 | 0, s, u, h => by
  rw [Lib.splitB_zero, List.mem_singleton] at h
  rw [h]; exact Nat.le_refl _
 | k + 1, s, u, h => by
  unfold Lib.splitB at h
  split at h
  ·rw [List.mem_singleton] at h; rw [h]; exact Nat.le_refl _
  ·rcases List.mem_cons.1 h with rfl | h
   ·rw [ByteArray.size_extract]; omega
   ·have := splitB_small sep k _ u h
    rw [ByteArray.size_extract] at this; omega

theorem fine_small {l : List UInt8} (h : l.length ≤ 5000000) : impl_PermFrom.fine (impl_PermFrom.words l) = true := by
 have hs : (⟨l.toArray⟩ : ByteArray).size = l.length := rfl
 unfold impl_PermFrom.fine
 simp only [Bool.and_eq_true, List.all_eq_true, decide_eq_true_eq]
 refine ⟨?_, fun u hu => ?_⟩
 ·have a := Lib.splitB_length_le ⟨#[44]⟩ 0 (Lib.countB ⟨l.toArray⟩ ⟨#[44]⟩) ⟨l.toArray⟩
  have b := Lib.countB_le ⟨#[44]⟩ (by decide) _ (⟨l.toArray⟩ : ByteArray) (Nat.le_refl _)
  unfold impl_PermFrom.words
  omega
 ·have := splitB_small _ _ _ u hu
  omega

theorem row_head {c : List Int} (hc : 2 ≤ c.length) (r : List UInt8) : impl_PermText.row c ++ r ≠ [] ∧ Lib.hasPrefix (impl_PermText.row c ++ r) [40] = true := by
 rw [row_join hc]
 exact ⟨by simp, by simp [Lib.hasPrefix]⟩

/-- the program reads one row -/
theorem fromI_row {n : Nat} (hn : n ≤ 12) {s : List UInt8} (hs : s ≠ [40, 41]) {c : List Int} (h : Under n c) (hc : 2 ≤ c.length) (hl : c.length ≤ 12) {p : List Int} {r : List UInt8} {R : Option (List Int)}
 (k : Ev (fun k => impl_PermFrom.l0 n s k (impl_PermFrom.put c c.length 0 p) r) R) : Ev (fun k => impl_PermFrom.l0 n s k p (impl_PermText.row c ++ r)) R := by
 obtain ⟨h1, h2⟩ := row_head hc r
 have hi := inner_row hn h hc r
 have hp : impl_PermFrom.pts n (impl_PermFrom.words (joinC (c.map dg))) [] = some c := by
  rw [pts_eq, words_row hn h hc, ptsL_dg hn c [] h]; rfl
 have hf : impl_PermFrom.fine (impl_PermFrom.words (joinC (c.map dg))) = true := by
  refine fine_small ?_
  have a := items_len (c := c) (fun x hx => by obtain ⟨m, hm, e⟩ := h x hx; exact ⟨m, by omega, e⟩) true
  rw [items_join c true (by intro e; subst e; simp at hc)] at a
  simp only [List.length_cons] at a
  omega
 refine Ev.step (fun q => ?_) k
 rw [impl_PermFrom.l0, if_neg h1, if_neg hs, if_pos h2, hi, if_pos rfl, if_pos hf]
 simp only [hp]

/-- all rows are put over a row of points -/
def putAll : List (List Int) → List Int → List Int
 | [], p => p
 | c :: t, p => putAll t (if c.length < 2 then p else impl_PermFrom.put c c.length 0 p)

theorem fromI_txt {n : Nat} (hn : n ≤ 12) {s : List UInt8} (hs : s ≠ [40, 41]) : ∀ (cs : List (List Int)), (∀ c, c ∈ cs → Under n c ∧ c.length ≤ 12) → ∀ p, Ev (fun k => impl_PermFrom.l0 n s k p (impl_PermText.txt cs)) (some (putAll cs p))
 | [], _, p => by
  refine Ev.step (f := fun _ => some (some p)) (fun k => ?_) (Ev.now _)
  rw [impl_PermText.txt, impl_PermFrom.l0, if_pos rfl]
 | c :: t, h, p => by
  have ih := fromI_txt hn hs t (fun x hx => h x (List.mem_cons_of_mem _ hx))
  obtain ⟨a, b⟩ := h c (by simp)
  rw [putAll]
  by_cases k : c.length < 2
  ·have e : impl_PermText.txt (c :: t) = impl_PermText.txt t := by
    rw [impl_PermText.txt]; unfold impl_PermText.row; rw [if_pos k]; rfl
   rw [e, if_pos k]
   exact ih p
  ·rw [impl_PermText.txt, if_neg k]
   exact fromI_row hn hs a (by omega) b (ih _)

/-- a row's points lead on as the permutation says -/
theorem pm_set1 {n : Nat} (E : Nat → Nat) {i : Nat} (hi : i < n) (v : Nat) : (pm n E).set i (v : Int) = pm n (fun y => if y = i then v else E y) := by
 apply List.ext_getElem
 ·simp [pm_length]
 ·intro j h1 h2
  have hj : j < n := by rw [pm_length] at h2; exact h2
  simp only [pm, List.getElem_set, List.getElem_map, List.getElem_range]
  by_cases e : i = j
  ·subst e; simp
  ·rw [if_neg e, if_neg (fun k => e k.symm)]

theorem put_cyc {n : Nat} {f : Nat → Nat} (hb : Bij n f) {m : Nat} (hm : m < n) : ∀ d i, i + d = per n f m → ∀ g : Nat → Nat, ∃ g' : Nat → Nat, impl_PermFrom.put (ints (cyc n f m)) d i (pm n g) = pm n g' ∧
 ∀ x, x < n → (g' x = f x ∨ g' x = g x) ∧ ((g x = f x ∨ ∃ j, i ≤ j ∧ j < per n f m ∧ it f j m = x) → g' x = f x)
 | 0, i, hi, g => ⟨g, rfl, fun x hx => ⟨.inr rfl, fun h => h.elim id fun ⟨j, h1, h2, _⟩ => by omega⟩⟩
 | d + 1, i, hi, g => by
  have hip : i < per n f m := by omega
  have ps := per_spec hb hm
  have e1 : rd (ints (cyc n f m)) (i : Int) = (it f i m : Int) := cyc_rd hip
  have e2 : rd (ints (cyc n f m)) (((i + 1) % (ints (cyc n f m)).length : Nat) : Int) = (f (it f i m) : Int) := by
   rw [cyc_len]
   by_cases k : i + 1 < per n f m
   ·rw [Nat.mod_eq_of_lt k, cyc_rd k]; rfl
   ·have : i + 1 = per n f m := by omega
    rw [this, Nat.mod_self, cyc_rd (by omega)]
    have w := ps.2.2.1
    rw [← this] at w
    have w2 : f (it f i m) = m := w
    rw [w2]; rfl
  have lt := it_lt hb i hm
  obtain ⟨g', h1, h2⟩ := put_cyc hb hm d (i + 1) (by omega) (fun y => if y = it f i m then f (it f i m) else g y)
  refine ⟨g', ?_, fun x hx => ?_⟩
  ·rw [impl_PermFrom.put, e1, e2, Int.toNat_natCast, pm_set1 g lt, h1]
  ·obtain ⟨a, b⟩ := h2 x hx
   by_cases k : x = it f i m
   ·subst k
    rw [if_pos rfl] at a b
    have := b (.inl rfl)
    exact ⟨.inl this, fun _ => this⟩
   ·rw [if_neg k] at a b
    refine ⟨a, fun h => b ?_⟩
    rcases h with h | ⟨j, h3, h4, h5⟩
    ·exact .inl h
    ·by_cases e : j = i
     ·subst e; exact absurd h5.symm k
     ·exact .inr ⟨j, by omega, h4, h5⟩

theorem putAll_cyc {n : Nat} {f : Nat → Nat} (hb : Bij n f) : ∀ (ms : List Nat), (∀ m, m ∈ ms → m < n) → ∀ g : Nat → Nat, ∃ g' : Nat → Nat, putAll (ms.map fun m => ints (cyc n f m)) (pm n g) = pm n g' ∧
 ∀ x, x < n → (g' x = f x ∨ g' x = g x) ∧ ((g x = f x ∨ ∃ m, m ∈ ms ∧ 2 ≤ per n f m ∧ orb f m x) → g' x = f x)
 | [], _, g => ⟨g, rfl, fun x hx => ⟨.inr rfl, fun h => h.elim id fun ⟨m, h1, _⟩ => by cases h1⟩⟩
 | m :: ms, h, g => by
  have hm := h m (by simp)
  have hms : ∀ a, a ∈ ms → a < n := fun a ha => h a (List.mem_cons_of_mem _ ha)
  rw [List.map_cons, putAll, cyc_len]
  by_cases k : per n f m < 2
  ·rw [if_pos k]
   obtain ⟨g', h1, h2⟩ := putAll_cyc hb ms hms g
   refine ⟨g', h1, fun x hx => ⟨(h2 x hx).1, fun w => (h2 x hx).2 ?_⟩⟩
   rcases w with w | ⟨a, w1, w2, w3⟩
   ·exact .inl w
   ·rcases List.mem_cons.1 w1 with rfl | w1
    ·omega
    ·exact .inr ⟨a, w1, w2, w3⟩
  ·rw [if_neg k]
   obtain ⟨g1, a1, a2⟩ := put_cyc hb hm (per n f m) 0 (by omega) g
   obtain ⟨g', h1, h2⟩ := putAll_cyc hb ms hms g1
   refine ⟨g', by rw [a1, h1], fun x hx => ?_⟩
   obtain ⟨b1, b2⟩ := a2 x hx
   obtain ⟨c1, c2⟩ := h2 x hx
   refine ⟨?_, fun w => ?_⟩
   ·rcases c1 with c1 | c1
    ·exact .inl c1
    ·rcases b1 with b1 | b1
     ·exact .inl (c1.trans b1)
     ·exact .inr (c1.trans b1)
   ·rcases w with w | ⟨a, w1, w2, w3⟩
    ·exact c2 (.inl (b2 (.inl w)))
    ·rcases List.mem_cons.1 w1 with rfl | w1
     ·obtain ⟨j, hj, e⟩ : ∃ j, j < per n f a ∧ it f j a = x := by
       have := (mem_cyc hb hm).2 w3
       simp only [cyc, List.mem_map, List.mem_range] at this
       exact this
      exact c2 (.inl (b2 (.inr ⟨j, by omega, hj, e⟩)))
     ·exact c2 (.inr ⟨a, w1, w2, w3⟩)

theorem putAll_pm {n : Nat} {f : Nat → Nat} (hb : Bij n f) : putAll (cycsL n f) (pm n fun i => i) = pm n f := by
 rw [cycsL_eq]
 obtain ⟨g', h1, h2⟩ := putAll_cyc hb (mins n f) (fun m hm => (mem_mins.1 hm).1) (fun i => i)
 rw [h1]
 refine pm_ext.2 fun x hx => ?_
 obtain ⟨m, hm, im, o, _⟩ := min_of hb hx
 refine (h2 x hx).2 ?_
 by_cases k : 2 ≤ per n f m
 ·exact .inr ⟨m, mem_mins.2 ⟨hm, im⟩, k, o⟩
 ·have p1 := per_orb hb hm o
  have p := per_spec hb hx
  have : per n f x = 1 := by have := p.1; omega
  have w := p.2.2.1
  rw [this] at w
  exact .inl (show x = f x from w.symm)

/-- the text of a permutation -/
def TT (n : Nat) (f : Nat → Nat) : List UInt8 := if impl_PermText.txt (cycsL n f) = [] then [40, 41] else impl_PermText.txt (cycsL n f)

theorem TT_bA (n : Nat) (f : Nat → Nat) : (if impl_PermText.txt (cycsL n f) = [] then (⟨#[40, 41]⟩ : ByteArray) else bA (impl_PermText.txt (cycsL n f))) = bA (TT n f) := by
 unfold TT; split <;> rfl

theorem TT_len {n : Nat} {f : Nat → Nat} (hn : n ≤ 12) (hb : Bij n f) : (TT n f).length ≤ 500 := by
 have low := cycsL_low hn hb
 have lc : (cycsL n f).length ≤ n := cycsL_len
 have := txt_len low
 unfold TT
 split
 ·simp
 ·omega

theorem implText_pm {n : Nat} {a : List Int} {f : Nat → Nat} (hf : IsPerm n a f) : Ev (fun k => impl_PermText.f k a) (bA (TT n f)) := by
 have low := cycsL_low hf.2.1 hf.2.2.1
 have lc : (cycsL n f).length ≤ n := cycsL_len
 have h12 := hf.2.1
 rw [← TT_bA]
 unfold impl_PermText.f
 refine Ev.bind1 (implValid_ev a) (Ev.pos (isPerm_valid hf) (Ev.bind1 (a := cycsL n f) ?_ (Ev.pos (txt_small low (by omega)) ?_)))
 ·have := implCycles_ev (n := n) (f := f) (by omega) hf.2.2.1
  rw [← hf.2.2.2] at this
  exact this
 ·by_cases c : impl_PermText.txt (cycsL n f) = []
  ·rw [show (if impl_PermText.txt (cycsL n f) = [] then (⟨#[40, 41]⟩ : ByteArray) else bA (impl_PermText.txt (cycsL n f))) = ⟨#[40, 41]⟩ from if_pos c]; exact Ev.pos c (Ev.now _)
  ·rw [show (if impl_PermText.txt (cycsL n f) = [] then (⟨#[40, 41]⟩ : ByteArray) else bA (impl_PermText.txt (cycsL n f))) = bA (impl_PermText.txt (cycsL n f)) from if_neg c]; exact Ev.neg c (Ev.now _)

theorem implText_no {a : List Int} (v : ¬ impl_PermValid.validB a = true) : Ev (fun k => impl_PermText.f k a) (bA []) := by
 unfold impl_PermText.f
 exact Ev.bind1 (implValid_ev a) (Ev.neg v (Ev.now _))

theorem cycsL_under {n : Nat} {f : Nat → Nat} (hb : Bij n f) : ∀ c, c ∈ cycsL n f → Under n c ∧ c.length ≤ n := by
 intro c hc
 obtain ⟨m, hm, _, rfl⟩ := cycsL_mem hc
 have p := (per_spec hb hm).2.1
 refine ⟨fun x hx => ?_, by rw [cyc_len]; exact p⟩
 obtain ⟨y, hy, rfl⟩ := List.mem_map.1 hx
 obtain ⟨k, rfl⟩ := (mem_cyc hb hm).1 hy
 exact ⟨_, it_lt hb k hm, rfl⟩

theorem putAll_short : ∀ (cs : List (List Int)) (p : List Int), impl_PermText.txt cs = [] → putAll cs p = p
 | [], _, _ => rfl
 | c :: t, p, h => by
  rw [impl_PermText.txt, List.append_eq_nil_iff] at h
  have : c.length < 2 := by
   have h1 := h.1
   unfold impl_PermText.row at h1
   split at h1
   ·assumption
   ·simp at h1
  rw [putAll, if_pos this]
  exact putAll_short t p h.2

theorem row_second {n : Nat} (hn : n ≤ 12) {c : List Int} (h : Under n c) (hc : 2 ≤ c.length) (r : List UInt8) : ∃ d t, impl_PermText.row c ++ r = 40 :: d :: t ∧ 48 ≤ d.toNat := by
 rw [row_join hc]
 match c, h, hc with
 | x :: y :: t, h, _ =>
  obtain ⟨m, hm, rfl⟩ := h x (by simp)
  have hr := dg_range (m := m) (by omega)
  cases e : dg (m : Int) with
  | nil =>
   have : 0 < (dg (m : Int)).length := by
    unfold dg
    rw [Int.toNat_natCast]
    by_cases k : m < 10
    ·rw [dec1 k]; simp
    ·rw [dec2 k]; simp
   rw [e] at this; simp at this
  | cons d q =>
   refine ⟨d, _, by simp [joinC, e]; rfl, (hr d (by rw [e]; simp)).1⟩

theorem txt_second {n : Nat} (hn : n ≤ 12) : ∀ (cs : List (List Int)), (∀ c, c ∈ cs → Under n c) → impl_PermText.txt cs = [] ∨ ∃ d t, impl_PermText.txt cs = 40 :: d :: t ∧ 48 ≤ d.toNat
 | [], _ => .inl rfl
 | c :: t, h => by
  by_cases k : c.length < 2
  ·have e : impl_PermText.txt (c :: t) = impl_PermText.txt t := by
    rw [impl_PermText.txt]; unfold impl_PermText.row; rw [if_pos k]; rfl
   rw [e]
   exact txt_second hn t fun x hx => h x (List.mem_cons_of_mem _ hx)
  ·rw [impl_PermText.txt]
   exact .inr (row_second hn (h c (by simp)) (by omega) _)

/-- The program reads what was written. -/
theorem implFrom_pm {n : Nat} {a : List Int} {f : Nat → Nat} (hf : IsPerm n a f) : Ev (fun k => impl_PermFrom.f k (n : Int) (bA (TT n f))) (a, true) := by
 have h1 := hf.1
 have h12 := hf.2.1
 have hb := hf.2.2.1
 have hl := TT_len h12 hb
 unfold impl_PermFrom.f
 have dt : (bA (TT n f)).data.toList = TT n f := rfl
 refine Ev.neg (by omega) (Ev.neg (by omega) (Ev.pos (by rw [dt]; omega) (Ev.bind1 (still_ev (n := n) (by omega)) (Ev.pos (by rw [pm_length]) ?_))))
 rw [dt]
 refine Ev.bind1 (a := some a) ?_ ?_
 ·rw [hf.2.2.2, ← putAll_pm hb]
  by_cases c : impl_PermText.txt (cycsL n f) = []
  ·have e : TT n f = [40, 41] := if_pos c
   rw [e, putAll_short _ _ c]
   refine Ev.step (f := fun _ => some (some (pm n fun i => i))) (fun k => ?_) (Ev.now _)
   rw [impl_PermFrom.l0, if_neg (by simp), if_pos rfl]
  ·have e : TT n f = impl_PermText.txt (cycsL n f) := if_neg c
   rw [e]
   have ne : impl_PermText.txt (cycsL n f) ≠ [40, 41] := by
    rcases txt_second h12 _ (fun c hc => (cycsL_under hb c hc).1) with k | ⟨d, t, k, hd⟩
    ·exact absurd k c
    ·rw [k]; intro z
     have : d = 41 := by injection z with _ z; injection z
     subst this; exact absurd hd (by decide)
   exact fromI_txt h12 ne _ (fun c hc => ⟨(cycsL_under hb c hc).1, by have := (cycsL_under hb c hc).2; omega⟩) _
 ·exact Ev.bind1 (implText_pm hf) (Ev.pos rfl (Ev.now _))

theorem txt_shorts : ∀ cs : List (List Int), (∀ c, c ∈ cs → c.length < 2) → impl_PermText.txt cs = []
 | [], _ => rfl
 | c :: t, h => by
  rw [impl_PermText.txt, txt_shorts t fun x hx => h x (List.mem_cons_of_mem _ hx)]
  unfold impl_PermText.row
  rw [if_pos (h c (by simp))]; rfl

theorem TT_id (n : Nat) : TT n (fun i => i) = [40, 41] := by
 unfold TT
 refine if_pos (txt_shorts _ fun c hc => ?_)
 obtain ⟨m, hm, _, rfl⟩ := cycsL_mem hc
 rw [cyc_len, per_eq (m := 1) (id_bij n) hm (by omega) rfl fun k h1 h2 => by omega]
 omega

theorem conj_at {n : Nat} {f g : Nat → Nat} (hg : Bij n g) : ∀ x, x < n → conj n g f (g x) = g (f x) := fun x hx => by
 unfold conj; rw [finv_left hg hx]

theorem still_conj {n : Nat} {f g : Nat → Nat} (hf : Bij n f) (hg : Bij n g) (m : Nat) : Sm.still n (conj n g f) m = Sm.still n f m := by
 rw [Bool.eq_iff_iff, still_iff, still_iff]
 have e := conj_at (f := f) hg
 constructor
 ·intro h x hx
  have a := h (g x) (hg.1 x hx)
  rw [it_conj_lt hf e m hx] at a
  exact hg.2 _ _ (it_lt hf m hx) hx a
 ·intro h y hy
  have lt := (finv_bij hg).1 y hy
  have r := (finv_spec hg hy).2
  have a := it_conj_lt hf e m lt
  rw [h _ lt, r] at a
  exact a

theorem ord_conj {n : Nat} {f g : Nat → Nat} (hf : Bij n f) (hg : Bij n g) : ord n (conj n g f) = ord n f := by
 unfold ord
 congr 1
 exact funext fun m => still_conj hf hg m

theorem power_ord {n : Nat} {a : List Int} {f : Nat → Nat} (h : IsPerm n a f) : Ev (fun q => impl_PermPower.f q a (ord n f : Int)) (pm n (fun i => i), true) := by
 have o := ord_spec h.2.2.1
 have l := ord_le h.2.2.1 h.2.1
 have e := implPower_ev a (ord n f : Int)
 rw [powerR_perm h _ (by omega) (by omega)] at e
 have : pm n (pw n f (ord n f : Int)) = pm n (fun i => i) := pm_ext.2 fun x hx => by
  unfold pw; rw [if_neg (by omega), Int.toNat_natCast]; exact o.2.2.1 x hx
 rwa [this] at e

theorem mulR_small (a b : List Int) : (mulR a b).1.length ≤ 12 := by
 by_cases v : both a b = true
 ·obtain ⟨n, f, g, hf, hg⟩ := (both_iff a b).1 v
  rw [mulR_perm hf hg, pm_length]; exact hf.2.1
 ·unfold mulR; rw [if_neg v]; simp

theorem mulR_two (a b : List Int) : (mulR a b).2 = both a b := by
 unfold mulR
 cases h : both a b <;> simp [h]

/-- Of any two lists that are permutations: signs multiply, types stay when renamed, and texts are read back. -/
theorem FnPermsWhole : laws_FnPermsWhole.Pure := by
 intro p q hp1 hp2 hpw hq1 hq2 hqw
 refine Ev.rounds ?_
 unfold laws_FnPermsWhole.f
 have early : Ev (fun k => laws_FnPermsWhole.j0 k p q true) true := Ev.step (f := fun _ => some true) (fun k => by rw [laws_FnPermsWhole.j0, if_pos rfl]) (Ev.now _)
 by_cases c : (p.length : Int) > 2147483647
 ·exact Ev.pos c early
 refine Ev.neg c ?_
 by_cases c2 : (q.length : Int) > 2147483647
 ·rw [decide_eq_true c2]; exact early
 rw [decide_eq_false c2]
 have sp := specValid_ev p (by omega)
 have sq := specValid_ev q (by omega)
 have v0 := implValid_ev [0]
 have v0t : impl_PermValid.validB [0] = true := by decide
 rw [v0t] at v0
 have sm := sameInts_ev (a := (mulR p q).1) (b := (mulR p q).1) (by have := mulR_small p q; omega)
 rw [decide_eq_true rfl] at sm
 have pre : Ev (fun k => laws_FnPermsWhole.j1 k p q (impl_PermValid.validB p) (mulR p q).1 (mulR p q).2 false) true → Ev (fun k => laws_FnPermsWhole.j0 k p q false) true := by
  intro next
  refine Ev.step (fun k => by rw [laws_FnPermsWhole.j0]) (Ev.neg (by simp) (Ev.bind1 (implValid_ev p) (Ev.bind1 (implValid_ev q) (Ev.bind1 (implMul_ev p q) (Ev.bind1 (specMul_ev (a := p) (b := q) (by omega) (by omega)) (Ev.bind1 sp ?_))))))
  refine Ev.neg (by simp) (Ev.bind1 sq ?_)
  refine Ev.neg (by simp) ?_
  refine Ev.neg (by simp) (Ev.bind1 sm (Ev.pos rfl ?_))
  have e2 := mulR_two p q
  unfold both at e2
  by_cases a : impl_PermValid.validB p = true
  ·refine Ev.pos a ?_
   by_cases b : impl_PermValid.validB q = true
   ·refine Ev.pos b (Ev.neg ?_ (Ev.bind1 v0 next))
    rw [e2, a, b]
    by_cases l : p.length = q.length
    ·simp [l]
    ·have : ¬ (p.length : Int) = (q.length : Int) := by omega
     simp [l, this]
   ·refine Ev.neg b (Ev.neg (by rw [e2]; simp [b]) (Ev.bind1 v0 next))
  ·exact Ev.neg a (Ev.neg (by rw [e2]; simp [a]) (Ev.bind1 v0 next))
 refine pre (Ev.step (fun k => by rw [laws_FnPermsWhole.j1]) (Ev.neg (by simp) ?_))
 by_cases v : impl_PermValid.validB p = true
 ·obtain ⟨f, hf⟩ := (valid_iff p).1 v
  generalize hn : p.length = n at hf
  have h1 := hf.1
  have h12 := hf.2.1
  have hb := hf.2.2.1
  have hid : IsPerm n (pm n fun i => i) (fun i => i) := ⟨h1, h12, id_bij n, rfl⟩
  have same := sameInts_ev (a := p) (b := p) (by omega)
  rw [decide_eq_true rfl] at same
  have eo := implOrder_ev p
  rw [orderR_perm hf] at eo
  refine Ev.pos v (Ev.bind1 (implText_pm hf) ?_)
  refine Ev.bind1 (implFrom_pm hf) (Ev.bind1 eo (Ev.bind1 (power_ord hf) (Ev.pos rfl (Ev.bind1 same (Ev.pos rfl (Ev.pos rfl (Ev.bind1 (implText_pm hid) ?_)))))))
  rw [TT_id, bA_toList, show (([40, 41] : List UInt8) != [40, 41]) = false by simp]
  refine Ev.step (fun k => by rw [laws_FnPermsWhole.j2]) (Ev.neg (by simp) ?_)
  by_cases w : both p q = true
  ·obtain ⟨m, f', g, hf', hg⟩ := (both_iff p q).1 w
   obtain ⟨rfl, ef⟩ := isPerm_same hf hf'
   rw [mulR_perm hf hg]
   have ho := mul_isPerm hf hg
   have hc : IsPerm m (pm m (conj m g f)) (conj m g f) := ⟨h1, h12, conj_bij hg.2.2.1 hb, rfl⟩
   have ec := implConj_ev p q
   rw [conjR_perm hf hg] at ec
   have eoc := implOrder_ev (pm m (conj m g f))
   rw [orderR_perm hc, ord_conj hb hg.2.2.1] at eoc
   have tc := implTypeP hc
   rw [typeL_conj hb hg.2.2.1 hc.2.2.1 (conj_at hg.2.2.1)] at tc
   have back : (pm m fun i => finv m g (g (f i))) = p := by
    rw [hf.2.2.2]; exact pm_ext.2 fun x hx => finv_left hg.2.2.1 (hb.1 x hx)
   have em := implMul_pm ho (back_isPerm hg)
   rw [back] at em
   have tl := typeL_len hb
   have cl := cc_le m f
   have st := sameInts_ev (a := typeL m f) (b := typeL m f) (by omega)
   rw [decide_eq_true rfl] at st
   refine Ev.pos rfl (Ev.bind1 (implBack_pm hg) (Ev.bind1 em (Ev.bind1 ec (Ev.bind1 (implTypeP hf) (Ev.bind1 tc (Ev.pos rfl (Ev.pos rfl (Ev.pos rfl (Ev.pos rfl (Ev.pos rfl (Ev.bind1 (implSign_pm ho) (Ev.bind1 (implSign_pm hf) (Ev.bind1 (implSign_pm hg) ?_)))))))))))))
   refine Ev.pos ?_ (Ev.bind1 same (Ev.pos rfl (Ev.bind1 st (Ev.pos rfl (Ev.bind1 eoc (Ev.bind1 eo ?_))))))
   ·rw [sgn_comp hb hg.2.2.1]
    rcases sgn_one m f with e1 | e1 <;> rcases sgn_one m g with e2 | e2 <;> rw [e1, e2] <;> rw [wrap_in (by omega) (by omega)]
   ·rw [show ((ord m f : Int) == (ord m f : Int)) = true by simp]
    exact Ev.now _
  ·refine Ev.neg ?_ (Ev.now _)
   rw [mulR_two]; exact w
 ·refine Ev.neg v (Ev.bind1 (implOrder_ev p) (Ev.bind1 (specOrder_ev (by omega)) (Ev.pos rfl (Ev.bind1 (implText_no v) ?_))))
  rw [bA_toList, show (([] : List UInt8) == []) = true by simp]
  exact Ev.now _
end Go.Proofs.YtieaplnngmgkeaaGreatDoor.R
namespace Go.Proofs.YtieaplnngmgkeaaGreatDoor.Pure
theorem FnPermsWhole : Go.Proofs.YtieaplnngmgkeaaGreatDoor.F.laws_FnPermsWhole.Pure := Go.Proofs.YtieaplnngmgkeaaGreatDoor.R.FnPermsWhole
end Go.Proofs.YtieaplnngmgkeaaGreatDoor.Pure
