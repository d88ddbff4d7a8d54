/- Turns divide the darts. -/
import Derived.Test.YtjnbbnaidjodlaaF0
import Derived.Test.YtjnbbnaidjodlaaF1
import Derived.Test.YtjnbbnaidjodlaaF10
import Derived.Test.YtjnbbnaidjodlaaF12
import Derived.Test.YtjnbbnaidjodlaaF13
import Derived.Test.YtjnbbnaidjodlaaF14
import Derived.Test.YtjnbbnaidjodlaaF16
import Derived.Test.YtjnbbnaidjodlaaF17
import Derived.Test.YtjnbbnaidjodlaaF18
import Derived.Test.YtjnbbnaidjodlaaF2
import Derived.Test.YtjnbbnaidjodlaaF20
import Derived.Test.YtjnbbnaidjodlaaF21
import Derived.Test.YtjnbbnaidjodlaaF22
import Derived.Test.YtjnbbnaidjodlaaF23
import Derived.Test.YtjnbbnaidjodlaaF24
import Derived.Test.YtjnbbnaidjodlaaF25
import Derived.Test.YtjnbbnaidjodlaaF26
import Derived.Test.YtjnbbnaidjodlaaF27
import Derived.Test.YtjnbbnaidjodlaaF28
import Derived.Test.YtjnbbnaidjodlaaF29
import Derived.Test.YtjnbbnaidjodlaaF3
import Derived.Test.YtjnbbnaidjodlaaF30
import Derived.Test.YtjnbbnaidjodlaaF31
import Derived.Test.YtjnbbnaidjodlaaF4
import Derived.Test.YtjnbbnaidjodlaaF6
import Derived.Test.YtjnbbnaidjodlaaF7
import Derived.Test.YtjnbbnaidjodlaaF8
import Derived.Test.YtjnbbnaidjodlaaF9
set_option linter.unusedVariables false
set_option linter.unusedSimpArgs false
namespace Go.Proofs.Ytjnbbnaidjodlaa.Sm
open List
/-- f permutes the numbers below n. -/
def Bij (n : Nat) (f : Nat → Nat) : Prop := (∀ i, i < n → f i < n) ∧ (∀ i j, i < n → j < n → f i = f j → i = j)

/-- the list of a permutation -/
def pm (n : Nat) (f : Nat → Nat) : List Int := (List.range n).map (fun i => (f i : Int))

theorem pm_length (n : Nat) (f : Nat → Nat) : (pm n f).length = n := by simp [pm]

theorem pm_getD (n : Nat) (f : Nat → Nat) (i : Nat) (h : i < n) : (pm n f).getD i 0 = (f i : Int) := by
 simp [pm, List.getD, h]

theorem pm_ext {n : Nat} {f g : Nat → Nat} : pm n f = pm n g ↔ ∀ i, i < n → f i = g i := by
 constructor
 ·intro h i hi
  have := pm_getD n f i hi
  rw [h, pm_getD n g i hi] at this
  omega
 ·intro h
  unfold pm
  apply List.map_congr_left
  intro i hi
  rw [h i (by simpa using hi)]

theorem eq_pm (n : Nat) (f : Nat → Nat) (l : List Int) (hl : l.length = n) (h : ∀ i, i < n → l.getD i 0 = (f i : Int)) : l = pm n f := by
 apply List.ext_getElem
 ·rw [hl, pm_length]
 ·intro i h1 h2
  have := h i (by omega)
  have e := pm_getD n f i (by omega)
  simp only [List.getD_eq_getElem?_getD, List.getElem?_eq_getElem h1, Option.getD_some] at this
  simp only [List.getD_eq_getElem?_getD, List.getElem?_eq_getElem h2, Option.getD_some] at e
  rw [this, e]

/-- the permutation without its last point -/
def byp (n : Nat) (f : Nat → Nat) (i : Nat) : Nat := if f i = n then f n else f i

theorem byp_bij {n : Nat} {f : Nat → Nat} (h : Bij (n + 1) f) : Bij n (byp n f) := by
 obtain ⟨h1, h2⟩ := h
 constructor
 ·intro i hi
  unfold byp
  have a := h1 i (by omega)
  have b := h1 n (by omega)
  split
  ·rename_i e
   have : f n ≠ n := fun e2 => by have := h2 i n (by omega) (by omega) (by omega); omega
   omega
  ·omega
 ·intro i j hi hj e
  unfold byp at e
  by_cases e1 : f i = n <;> by_cases e2 : f j = n
  ·exact h2 i j (by omega) (by omega) (by omega)
  ·rw [if_pos e1, if_neg e2] at e
   have := h2 n j (by omega) (by omega) e; omega
  ·rw [if_neg e1, if_pos e2] at e
   have := h2 i n (by omega) (by omega) e; omega
  ·rw [if_neg e1, if_neg e2] at e
   exact h2 i j (by omega) (by omega) e

theorem surj {n : Nat} {f : Nat → Nat} (h : Bij n f) : ∀ y, y < n → ∃ x, x < n ∧ f x = y := by
 induction n generalizing f with
 | zero => intro y hy; omega
 | succ n ih =>
  have hb := ih (byp_bij h)
  obtain ⟨h1, h2⟩ := h
  intro y hy
  by_cases e : y = n
  ·subst e
   by_cases e1 : f y = y
   ·exact ⟨y, by omega, e1⟩
   ·have b := h1 y (by omega)
    obtain ⟨x, hx, e2⟩ := hb (f y) (by omega)
    unfold byp at e2
    split at e2
    ·rename_i e3; exact ⟨x, by omega, e3⟩
    ·have := h2 x y (by omega) (by omega) e2; omega
  ·obtain ⟨x, hx, e2⟩ := hb y (by omega)
   unfold byp at e2
   split at e2
   ·exact ⟨n, by omega, e2⟩
   ·exact ⟨x, by omega, e2⟩

/-- the inverse below n -/
def finv (n : Nat) (f : Nat → Nat) (y : Nat) : Nat := ((List.range n).find? (fun i => f i == y)).getD 0

theorem finv_spec {n : Nat} {f : Nat → Nat} (h : Bij n f) {y : Nat} (hy : y < n) : finv n f y < n ∧ f (finv n f y) = y := by
 obtain ⟨x, hx, e⟩ := surj h y hy
 unfold finv
 cases hf : (List.range n).find? (fun i => f i == y) with
 | none =>
  rw [List.find?_eq_none] at hf
  exact absurd (hf x (by simpa using hx)) (by simp [e])
 | some z =>
  have a := List.mem_of_find?_eq_some hf
  have b := List.find?_some hf
  simp at a b
  exact ⟨by simpa using a, by simpa using b⟩

theorem finv_left {n : Nat} {f : Nat → Nat} (h : Bij n f) {x : Nat} (hx : x < n) : finv n f (f x) = x := by
 have := finv_spec h (h.1 x hx)
 exact h.2 _ _ this.1 hx this.2

theorem finv_bij {n : Nat} {f : Nat → Nat} (h : Bij n f) : Bij n (finv n f) := by
 refine ⟨fun i hi => (finv_spec h hi).1, fun i j hi hj e => ?_⟩
 have a := (finv_spec h hi).2
 have b := (finv_spec h hj).2
 rw [e] at a
 omega

theorem comp_bij {n : Nat} {f g : Nat → Nat} (h : Bij n f) (k : Bij n g) : Bij n (fun i => g (f i)) :=
 ⟨fun i hi => k.1 _ (h.1 i hi), fun i j hi hj e => h.2 i j hi hj (k.2 _ _ (h.1 i hi) (h.1 j hj) e)⟩

theorem id_bij (n : Nat) : Bij n (fun i => i) := ⟨fun _ h => h, fun _ _ _ _ e => e⟩

theorem bij_congr {n : Nat} {f g : Nat → Nat} (h : Bij n f) (e : ∀ i, i < n → f i = g i) : Bij n g :=
 ⟨fun i hi => by rw [← e i hi]; exact h.1 i hi, fun i j hi hj k => h.2 i j hi hj (by rw [e i hi, e j hj]; exact k)⟩

/-- f done m times -/
def it (f : Nat → Nat) : Nat → Nat → Nat
 | 0, x => x
 | m + 1, x => f (it f m x)

theorem it_add (f : Nat → Nat) (a b x : Nat) : it f (a + b) x = it f a (it f b x) := by
 induction a with
 | zero => simp [it]
 | succ a ih => rw [Nat.succ_add]; simp [it, ih]

theorem it_succ' (f : Nat → Nat) (a x : Nat) : it f (a + 1) x = it f a (f x) := it_add f a 1 x

theorem it_lt {n : Nat} {f : Nat → Nat} (h : Bij n f) (m : Nat) {x : Nat} (hx : x < n) : it f m x < n := by
 induction m with
 | zero => exact hx
 | succ m ih => exact h.1 _ ih

theorem it_inj {n : Nat} {f : Nat → Nat} (h : Bij n f) (m : Nat) {x y : Nat} (hx : x < n) (hy : y < n) (e : it f m x = it f m y) : x = y := by
 induction m with
 | zero => exact e
 | succ m ih => exact ih (h.2 _ _ (it_lt h m hx) (it_lt h m hy) e)

/-- pigeonhole: more than n numbers below n: two are equal -/
theorem pigeon (n : Nat) (g : Nat → Nat) (h : ∀ i, i ≤ n → g i < n) : ∃ i j, i < j ∧ j ≤ n ∧ g i = g j := by
 induction n generalizing g with
 | zero => exact absurd (h 0 (by omega)) (by omega)
 | succ n ih =>
  by_cases c : ∃ i, i < n + 1 ∧ g i = g (n + 1)
  ·obtain ⟨i, hi, e⟩ := c; exact ⟨i, n + 1, hi, by omega, e⟩
  ·have c' : ∀ i, i < n + 1 → g i ≠ g (n + 1) := fun i hi e => c ⟨i, hi, e⟩
   obtain ⟨i, j, hij, hj, e⟩ := ih (fun i => if g i = n then g (n + 1) else g i) (fun i hi => by
    have a := h i (by omega)
    have b := h (n + 1) (by omega)
    have d := c' i (by omega)
    show (if g i = n then g (n + 1) else g i) < n
    split <;> omega)
   refine ⟨i, j, hij, by omega, ?_⟩
   have di := c' i (by omega)
   have dj := c' j (by omega)
   by_cases e1 : g i = n <;> by_cases e2 : g j = n
   ·omega
   ·rw [if_pos e1, if_neg e2] at e; omega
   ·rw [if_neg e1, if_pos e2] at e; omega
   ·rw [if_neg e1, if_neg e2] at e; exact e

theorem it_back {n : Nat} {f : Nat → Nat} (h : Bij n f) {x : Nat} (hx : x < n) : ∃ m, 0 < m ∧ m ≤ n ∧ it f m x = x := by
 obtain ⟨i, j, hij, hj, e⟩ := pigeon n (fun m => it f m x) (fun m _ => it_lt h m hx)
 refine ⟨j - i, by omega, by omega, ?_⟩
 have : it f (i + (j - i)) x = it f i (it f (j - i) x) := it_add ..
 rw [show i + (j - i) = j by omega] at this
 exact (it_inj h i hx (it_lt h _ hx) (e.trans this)).symm

/-- the least positive m with p m, below a bound; else 0 -/
def least (p : Nat → Bool) (n : Nat) : Nat := ((List.range n).find? (fun m => p (m + 1))).elim 0 (· + 1)

theorem find_range_some {n : Nat} {p : Nat → Bool} {m : Nat} (h : (List.range n).find? p = some m) : m < n ∧ p m = true ∧ ∀ k, k < m → p k = false := by
 induction n generalizing m with
 | zero => simp at h
 | succ n ih =>
  rw [List.range_succ, List.find?_append] at h
  cases e : (List.range n).find? p with
  | some z =>
   rw [e] at h; simp at h; subst h
   have := ih e
   exact ⟨by omega, this.2⟩
  | none =>
   rw [e] at h
   simp at h
   obtain ⟨h1, rfl⟩ := h
   refine ⟨by omega, h1, fun k hk => ?_⟩
   rw [List.find?_eq_none] at e
   simpa using e k (by simpa using hk)

theorem least_spec {p : Nat → Bool} {n m : Nat} (hm : 0 < m) (hn : m ≤ n) (h : p m = true) :
 0 < least p n ∧ least p n ≤ m ∧ p (least p n) = true ∧ ∀ k, 0 < k → k < least p n → p k = false := by
 unfold least
 cases e : (List.range n).find? (fun m => p (m + 1)) with
 | none =>
  rw [List.find?_eq_none] at e
  have := e (m - 1) (by simp; omega)
  rw [show m - 1 + 1 = m by omega] at this
  exact absurd h this
 | some z =>
  obtain ⟨h1, h2, h3⟩ := find_range_some e
  simp only [Option.elim_some]
  refine ⟨by omega, ?_, h2, fun k hk hk2 => ?_⟩
  ·apply Nat.le_of_not_lt
   intro hlt
   have := h3 (m - 1) (by omega)
   rw [show m - 1 + 1 = m by omega, h] at this
   cases this
  ·have := h3 (k - 1) (by omega)
   rwa [show k - 1 + 1 = k by omega] at this

/-- how long the cycle of x is -/
def per (n : Nat) (f : Nat → Nat) (x : Nat) : Nat := least (fun m => it f m x == x) n

theorem per_spec {n : Nat} {f : Nat → Nat} (h : Bij n f) {x : Nat} (hx : x < n) :
 0 < per n f x ∧ per n f x ≤ n ∧ it f (per n f x) x = x ∧ ∀ k, 0 < k → k < per n f x → it f k x ≠ x := by
 obtain ⟨m, h1, h2, h3⟩ := it_back h hx
 obtain ⟨a, b, c, d⟩ := least_spec (p := fun m => it f m x == x) (n := n) h1 h2 (by simpa using h3)
 refine ⟨a, by unfold per; omega, ?_, fun k hk hk2 => by simpa using d k hk hk2⟩
 have := eq_of_beq c
 exact this

/-- two points change places -/
def swp (a b i : Nat) : Nat := if i = a then b else if i = b then a else i

theorem swp_bij {n a b : Nat} (ha : a < n) (hb : b < n) : Bij n (swp a b) := by
 constructor
 ·intro i hi; unfold swp; split <;> (try split) <;> omega
 ·intro i j _ _ e; unfold swp at e; split at e <;> split at e <;> (try split at e) <;> (try split at e) <;> omega

theorem countP_congr' {l : List Nat} {p q : Nat → Bool} (h : ∀ a, a ∈ l → p a = q a) : l.countP p = l.countP q := by
 apply List.countP_congr
 intro a ha
 rw [h a ha]

/-- no coloring that both keep tells i from j -/
def conn (n : Nat) (a b : Nat → Nat) (i j : Nat) : Prop := ∀ c : Nat → Nat, (∀ x, x < n → c (a x) = c x ∧ c (b x) = c x) → c i = c j

theorem conn_refl (n : Nat) (a b : Nat → Nat) (i : Nat) : conn n a b i i := fun _ _ => rfl

theorem conn_symm {n : Nat} {a b : Nat → Nat} {i j : Nat} (h : conn n a b i j) : conn n a b j i := fun c hc => (h c hc).symm

theorem conn_trans {n : Nat} {a b : Nat → Nat} {i j k : Nat} (h : conn n a b i j) (h' : conn n a b j k) : conn n a b i k := fun c hc => (h c hc).trans (h' c hc)

theorem conn_a {n : Nat} {a b : Nat → Nat} {i : Nat} (h : i < n) : conn n a b i (a i) := fun _ hc => (hc i h).1.symm

theorem conn_b {n : Nat} {a b : Nat → Nat} {i : Nat} (h : i < n) : conn n a b i (b i) := fun _ hc => (hc i h).2.symm

/-- o tells the least point that each point leads to -/
structure IsOrb (n : Nat) (a b o : Nat → Nat) : Prop where
 keep : ∀ x, x < n → o (a x) = o x ∧ o (b x) = o x
 le : ∀ x, x < n → o x ≤ x
 conn : ∀ x, x < n → conn n a b x (o x)

theorem IsOrb.lt {n : Nat} {a b o : Nat → Nat} (h : IsOrb n a b o) {x : Nat} (hx : x < n) : o x < n := Nat.lt_of_le_of_lt (h.le x hx) hx

theorem IsOrb.unique {n : Nat} {a b o o' : Nat → Nat} (h : IsOrb n a b o) (h' : IsOrb n a b o') : ∀ x, x < n → o x = o' x := by
 have key : ∀ o o', IsOrb n a b o → IsOrb n a b o' → ∀ x, x < n → o' x ≤ o x := by
  intro o o' h h' x hx
  have e := h.conn x hx o' h'.keep
  rw [e]
  exact h'.le _ (h.lt hx)
 intro x hx
 exact Nat.le_antisymm (key _ _ h' h x hx) (key _ _ h h' x hx)

theorem IsOrb.idem {n : Nat} {a b o : Nat → Nat} (h : IsOrb n a b o) {x : Nat} (hx : x < n) : o (o x) = o x :=
 (h.conn x hx o h.keep).symm

/-- a set that one permutation maps into itself: it doesn't map others into it -/
theorem closed_back {n : Nat} {f : Nat → Nat} (h : Bij n f) (S : Nat → Prop) (hS : ∀ x, x < n → S x → S (f x)) {x : Nat} (hx : x < n) (hf : S (f x)) : S x := by
 have key : ∀ k, ∀ y, y < n → S y → S (it f k y) := by
  intro k
  induction k with
  | zero => intro y _ h; exact h
  | succ k ih => intro y hy h'; exact hS _ (it_lt h k hy) (ih y hy h')
 have p := per_spec h hx
 have := key (per n f x - 1) (f x) (h.1 x hx) hf
 rw [← it_succ', show per n f x - 1 + 1 = per n f x by omega, p.2.2.1] at this
 exact this

/-- a set that both map into itself and that holds a point holds all that it leads to -/
theorem conn_closed {n : Nat} {a b : Nat → Nat} (ha : Bij n a) (hb : Bij n b) (S : Nat → Prop) (h1 : ∀ x, x < n → S x → S (a x)) (h2 : ∀ x, x < n → S x → S (b x)) {i j : Nat} (hc : conn n a b i j) (hi : S i) : S j := by
 have d : ∀ x, Decidable (S x) := fun x => Classical.propDecidable _
 have := hc (fun x => if S x then 1 else 0) (fun x hx => by
  constructor
  ·by_cases c : S x
   ·rw [if_pos c, if_pos (h1 x hx c)]
   ·rw [if_neg c, if_neg (fun e => c (closed_back ha S h1 hx e))]
  ·by_cases c : S x
   ·rw [if_pos c, if_pos (h2 x hx c)]
   ·rw [if_neg c, if_neg (fun e => c (closed_back hb S h2 hx e))])
 simp only [if_pos hi] at this
 by_cases c : S j
 ·exact c
 ·rw [if_neg c] at this; cases this

def put (o : List Nat) (d : Nat) : List Nat := if d ∈ o then o else o ++ [d]

def bstep (t s : Nat → Nat) (o : List Nat) (x : Nat) : List Nat := put (put o (t x)) (s x)

def bord (t s : Nat → Nat) (root : Nat) : Nat → List Nat
 | 0 => [root]
 | k + 1 => match (bord t s root k)[k]? with
  | none => bord t s root k
  | some x => bstep t s (bord t s root k) x

theorem put_pre (o : List Nat) (d : Nat) : o <+: put o d := by
 unfold put; split
 ·exact prefix_refl _
 ·exact prefix_append ..

theorem mem_put {o : List Nat} {d x : Nat} : x ∈ put o d ↔ x ∈ o ∨ x = d := by
 unfold put; split
 ·rename_i h
  constructor
  ·exact .inl
  ·rintro (h' | rfl)
   ·exact h'
   ·exact h
 ·simp

theorem put_nodup {o : List Nat} {d : Nat} (h : o.Nodup) : (put o d).Nodup := by
 unfold put; split
 ·exact h
 ·rename_i hd
  rw [nodup_append]
  refine ⟨h, by simp, ?_⟩
  intro a ha b hb e
  simp at hb
  subst hb; subst e
  exact hd ha

theorem bstep_pre (t s : Nat → Nat) (o : List Nat) (x : Nat) : o <+: bstep t s o x := (put_pre _ _).trans (put_pre _ _)

theorem bord_pre (t s : Nat → Nat) (root k : Nat) : bord t s root k <+: bord t s root (k + 1) := by
 show _ <+: (match (bord t s root k)[k]? with
  | none => bord t s root k
  | some x => bstep t s (bord t s root k) x)
 split
 ·exact prefix_refl _
 ·exact bstep_pre ..

theorem bord_pre' (t s : Nat → Nat) (root : Nat) {k m : Nat} (h : k ≤ m) : bord t s root k <+: bord t s root m := by
 induction m with
 | zero => rw [show k = 0 by omega]; exact prefix_refl _
 | succ m ih =>
  by_cases c : k = m + 1
  ·rw [c]; exact prefix_refl _
  ·exact (ih (by omega)).trans (bord_pre t s root m)

theorem bord_nodup (t s : Nat → Nat) (root k : Nat) : (bord t s root k).Nodup := by
 induction k with
 | zero => simp [bord]
 | succ k ih =>
  unfold bord
  split
  ·exact ih
  ·exact put_nodup (put_nodup ih)

theorem bord_lt {n : Nat} {t s : Nat → Nat} (ht : ∀ i, i < n → t i < n) (hs : ∀ i, i < n → s i < n) {root : Nat} (hr : root < n) (k : Nat) : ∀ x, x ∈ bord t s root k → x < n := by
 induction k with
 | zero => intro x hx; simp [bord] at hx; omega
 | succ k ih =>
  intro x hx
  unfold bord at hx
  split at hx
  ·exact ih x hx
  ·rename_i y hy
   have hy' := ih y (mem_of_getElem? hy)
   unfold bstep at hx
   rw [mem_put, mem_put] at hx
   rcases hx with (h | rfl) | rfl
   ·exact ih x h
   ·exact ht y hy'
   ·exact hs y hy'

theorem bord_len_le {n : Nat} {t s : Nat → Nat} (ht : ∀ i, i < n → t i < n) (hs : ∀ i, i < n → s i < n) {root : Nat} (hr : root < n) (k : Nat) : (bord t s root k).length ≤ n := by
 have := (bord_nodup t s root k).length_le_of_subset (l₂ := List.range n) (fun x hx => by rw [mem_range]; exact bord_lt ht hs hr k x hx)
 simpa using this

theorem pre_get {l m : List Nat} (h : l <+: m) {i : Nat} {x : Nat} (e : l[i]? = some x) : m[i]? = some x := by
 obtain ⟨r, rfl⟩ := h
 rw [getElem?_append_left (by
  rw [getElem?_eq_some_iff] at e
  exact e.1)]
 exact e

theorem bord_has {t s : Nat → Nat} {root k i x : Nat} (hi : i < k) (e : (bord t s root k)[i]? = some x) (hk : i < (bord t s root i).length) : t x ∈ bord t s root k ∧ s x ∈ bord t s root k := by
 have e2 : (bord t s root i)[i]? = some x := by
  rw [getElem?_eq_getElem hk]
  have := pre_get (bord_pre' t s root (Nat.le_of_lt hi)) (getElem?_eq_getElem hk)
  rw [e] at this; exact this.symm
 have e3 : bord t s root (i + 1) = bstep t s (bord t s root i) x := by
  show (match (bord t s root i)[i]? with
   | none => bord t s root i
   | some x => bstep t s (bord t s root i) x) = _
  rw [e2]
 have p := bord_pre' t s root (show i + 1 ≤ k by omega)
 constructor
 ·apply p.subset; rw [e3]; unfold bstep; rw [mem_put, mem_put]; exact .inl (.inr rfl)
 ·apply p.subset; rw [e3]; unfold bstep; rw [mem_put]; exact .inr rfl

/-- while it goes on there is a next dart -/
theorem bord_alive {n : Nat} {t s : Nat → Nat} (ht : Bij n t) (hs : Bij n s) {root : Nat} (hr : root < n) (hc : ∀ x, x < n → conn n t s root x) (k : Nat) (hk : k < n) : k < (bord t s root k).length := by
 induction k with
 | zero => simp [bord]
 | succ k ih =>
  have i1 := ih (by omega)
  apply Nat.lt_of_not_le
  intro c
  have le := (bord_pre t s root k).length_le
  have len : (bord t s root (k + 1)).length = k + 1 := by omega
  have all : ∀ i, i < k + 1 → i < (bord t s root i).length := by
   intro i hi
   apply Nat.lt_of_not_le
   intro c2
   -- too short at i: then it stays so
   have stuck : ∀ m, i ≤ m → bord t s root m = bord t s root i := by
    intro m hm
    induction m with
    | zero => rw [show i = 0 by omega]
    | succ m ihm =>
     by_cases d : i = m + 1
     ·rw [d]
     ·have e := ihm (by omega)
      show (match (bord t s root m)[m]? with
       | none => bord t s root m
       | some x => bstep t s (bord t s root m) x) = _
      rw [e, getElem?_eq_none (by omega)]
   have := stuck k (by omega)
   rw [this] at i1
   omega
  have cl : ∀ x, x ∈ bord t s root (k + 1) → t x ∈ bord t s root (k + 1) ∧ s x ∈ bord t s root (k + 1) := by
   intro x hx
   obtain ⟨i, hi, e⟩ := mem_iff_getElem.1 hx
   exact bord_has (i := i) (by omega) (by rw [getElem?_eq_getElem hi, e]) (all i (by omega))
  have full : ∀ x, x < n → x ∈ bord t s root (k + 1) := fun x hx =>
   conn_closed ht hs (fun x => x ∈ bord t s root (k + 1)) (fun x _ h => (cl x h).1) (fun x _ h => (cl x h).2) (hc x hx) ((bord_pre' t s root (Nat.zero_le _)).subset (by simp [bord]))
  have := (nodup_range (n := n)).length_le_of_subset (l₂ := bord t s root (k + 1)) (fun x hx => full x (by simpa using hx))
  rw [length_range, len] at this
  omega

theorem bord_full {n : Nat} {t s : Nat → Nat} (ht : Bij n t) (hs : Bij n s) {root : Nat} (hr : root < n) (hc : ∀ x, x < n → conn n t s root x) : (bord t s root n).length = n ∧ ∀ x, x < n → x ∈ bord t s root n := by
 have cl : ∀ x, x ∈ bord t s root n → t x ∈ bord t s root n ∧ s x ∈ bord t s root n := by
  intro x hx
  obtain ⟨i, hi, e⟩ := mem_iff_getElem.1 hx
  have le := bord_len_le ht.1 hs.1 hr n
  exact bord_has (i := i) (by omega) (by rw [getElem?_eq_getElem hi, e]) (bord_alive ht hs hr hc i (by omega))
 have full : ∀ x, x < n → x ∈ bord t s root n := fun x hx =>
  conn_closed ht hs (fun x => x ∈ bord t s root n) (fun x _ h => (cl x h).1) (fun x _ h => (cl x h).2) (hc x hx) ((bord_pre' t s root (Nat.zero_le _)).subset (by simp [bord]))
 have := (nodup_range (n := n)).length_le_of_subset (l₂ := bord t s root n) (fun x hx => full x (by simpa using hx))
 rw [length_range] at this
 exact ⟨Nat.le_antisymm (bord_len_le ht.1 hs.1 hr n) this, full⟩

/-- the new name of a dart -/
def name (n : Nat) (t s : Nat → Nat) (root x : Nat) : Nat := (bord t s root n).idxOf x

theorem name_bij {n : Nat} {t s : Nat → Nat} (ht : Bij n t) (hs : Bij n s) {root : Nat} (hr : root < n) (hc : ∀ x, x < n → conn n t s root x) : Bij n (name n t s root) := by
 obtain ⟨h1, h2⟩ := bord_full ht hs hr hc
 constructor
 ·intro i hi
  have := idxOf_lt_length_of_mem (h2 i hi)
  rw [h1] at this; exact this
 ·intro i j hi hj e
  have a := idxOf_lt_length_of_mem (h2 i hi)
  have b := idxOf_lt_length_of_mem (h2 j hj)
  have ea := getElem_idxOf a
  have eb := getElem_idxOf b
  unfold name at e
  rw [← ea, ← eb]
  congr 1

theorem bord_head (t s : Nat → Nat) (root k : Nat) : (bord t s root k)[0]? = some root :=
 pre_get (bord_pre' t s root (Nat.zero_le k)) (by simp [bord])

theorem name_root (n : Nat) (t s : Nat → Nat) (root : Nat) : name n t s root root = 0 := by
 have h := bord_head t s root n
 unfold name
 cases e : bord t s root n with
 | nil => rw [e] at h; simp at h
 | cons a l => rw [e] at h; simp at h; subst h; simp [idxOf_cons]

theorem put_map {n : Nat} {g : Nat → Nat} (hg : Bij n g) {o : List Nat} {d : Nat} (ho : ∀ x, x ∈ o → x < n) (hd : d < n) : put (o.map g) (g d) = (put o d).map g := by
 unfold put
 have : g d ∈ o.map g ↔ d ∈ o := by
  rw [mem_map]
  constructor
  ·rintro ⟨x, hx, e⟩
   rw [← hg.2 x d (ho x hx) hd e]; exact hx
  ·intro h; exact ⟨d, h, rfl⟩
 by_cases c : d ∈ o
 ·rw [if_pos c, if_pos (this.2 c)]
 ·rw [if_neg c, if_neg (fun e => c (this.1 e))]
  simp

/-- a renamed map's darts come in the renamed order -/
theorem bord_map {n : Nat} {t s g t' s' : Nat → Nat} (ht : Bij n t) (hs : Bij n s) (hg : Bij n g) (et : ∀ x, x < n → t' (g x) = g (t x)) (es : ∀ x, x < n → s' (g x) = g (s x)) {root : Nat} (hr : root < n) (k : Nat) :
 bord t' s' (g root) k = (bord t s root k).map g := by
 induction k with
 | zero => simp [bord]
 | succ k ih =>
  show (match (bord t' s' (g root) k)[k]? with
   | none => bord t' s' (g root) k
   | some x => bstep t' s' (bord t' s' (g root) k) x) = (match (bord t s root k)[k]? with
   | none => bord t s root k
   | some x => bstep t s (bord t s root k) x).map g
  rw [ih, getElem?_map]
  have lt := bord_lt ht.1 hs.1 hr k
  cases e : (bord t s root k)[k]? with
  | none => rfl
  | some x =>
   have hx := lt x (mem_of_getElem? e)
   show bstep t' s' ((bord t s root k).map g) (g x) = _
   unfold bstep
   rw [et x hx, es x hx, put_map hg lt (ht.1 x hx), put_map hg (fun y hy => ?_) (hs.1 x hx)]
   rw [mem_put] at hy
   rcases hy with h | rfl
   ·exact lt y h
   ·exact ht.1 x hx

theorem idxOf_map {n : Nat} {g : Nat → Nat} (hg : Bij n g) (l : List Nat) (hl : ∀ x, x ∈ l → x < n) {d : Nat} (hd : d < n) : (l.map g).idxOf (g d) = l.idxOf d := by
 induction l with
 | nil => rfl
 | cons a l ih =>
  have ha := hl a (by simp)
  rw [List.map_cons, idxOf_cons, idxOf_cons, ih (fun x hx => hl x (by simp [hx]))]
  by_cases c : a = d
  ·subst c; rw [show (g a == g a) = true by simp, show (a == a) = true by simp]
  ·have : g a ≠ g d := fun e => c (hg.2 a d ha hd e)
   rw [show (g a == g d) = false by simpa using this, show (a == d) = false by simpa using c]

theorem name_map {n : Nat} {t s g t' s' : Nat → Nat} (ht : Bij n t) (hs : Bij n s) (hg : Bij n g) (et : ∀ x, x < n → t' (g x) = g (t x)) (es : ∀ x, x < n → s' (g x) = g (s x)) {root : Nat} (hr : root < n) {d : Nat} (hd : d < n) :
 name n t' s' (g root) (g d) = name n t s root d := by
 unfold name
 rw [bord_map ht hs hg et es hr, idxOf_map hg _ (bord_lt ht.1 hs.1 hr n) hd]

/-- a permutation renamed by another one -/
def conj (n : Nat) (g f : Nat → Nat) (y : Nat) : Nat := g (f (finv n g y))

theorem conj_at {n : Nat} {g f : Nat → Nat} (hg : Bij n g) {x : Nat} (hx : x < n) : conj n g f (g x) = g (f x) := by
 unfold conj; rw [finv_left hg hx]

theorem conj_bij {n : Nat} {g f : Nat → Nat} (hg : Bij n g) (hf : Bij n f) : Bij n (conj n g f) :=
 have h := comp_bij (finv_bij hg) hf
 comp_bij (g := g) h hg

theorem conj_eq {n : Nat} {g f k : Nat → Nat} (hg : Bij n g) (h : ∀ x, x < n → k (g x) = g (f x)) {y : Nat} (hy : y < n) : conj n g f y = k y := by
 obtain ⟨h1, h2⟩ := finv_spec hg hy
 unfold conj
 rw [← h _ h1, h2]

theorem conn_conj {n : Nat} {t s g t' s' : Nat → Nat} (hg : Bij n g) (et : ∀ x, x < n → t' (g x) = g (t x)) (es : ∀ x, x < n → s' (g x) = g (s x)) (ht : Bij n t) (hs : Bij n s) {i j : Nat} (h : conn n t s i j) : conn n t' s' (g i) (g j) := by
 intro c hc
 exact h (fun x => c (g x)) (fun x hx => by
  have := hc (g x) (hg.1 x hx)
  rw [et x hx, es x hx] at this
  exact this)

/-- the form of a renamed map from the renamed dart is the form of the map -/
theorem form_map {n : Nat} {t s g t' s' : Nat → Nat} (ht : Bij n t) (hs : Bij n s) (hg : Bij n g) (et : ∀ x, x < n → t' (g x) = g (t x)) (es : ∀ x, x < n → s' (g x) = g (s x)) {root : Nat} (hr : root < n) (hc : ∀ x, x < n → conn n t s root x) {f f' : Nat → Nat} (hf : Bij n f) (ef : ∀ x, x < n → f' (g x) = g (f x)) {y : Nat} (hy : y < n) :
 conj n (name n t' s' (g root)) f' y = conj n (name n t s root) f y := by
 have ht' : Bij n t' := bij_congr (conj_bij hg ht) (fun i hi => conj_eq hg et hi)
 have hs' : Bij n s' := bij_congr (conj_bij hg hs) (fun i hi => conj_eq hg es hi)
 have hc' : ∀ x, x < n → conn n t' s' (g root) x := by
  intro x hx
  obtain ⟨z, hz, rfl⟩ := surj hg x hx
  exact conn_conj hg et es ht hs (hc z hz)
 have b := name_bij ht hs hr hc
 have b' := name_bij ht' hs' (hg.1 root hr) hc'
 obtain ⟨x, hx, rfl⟩ := surj b y hy
 rw [conj_at b hx, ← name_map ht hs hg et es hr hx, conj_at b' (hg.1 x hx), ef x hx, name_map ht hs hg et es hr (hf.1 x hx)]

theorem countP_inj {n : Nat} {p q : Nat → Bool} (g : Nat → Nat) (h1 : ∀ x, x < n → p x = true → g x < n ∧ q (g x) = true) (h2 : ∀ x y, x < n → y < n → p x = true → p y = true → g x = g y → x = y) : (List.range n).countP p ≤ (List.range n).countP q := by
 rw [countP_eq_length_filter, countP_eq_length_filter, ← length_map (f := g)]
 apply Nodup.length_le_of_subset
 ·unfold Nodup
  rw [pairwise_map]
  have nd : ((List.range n).filter p).Nodup := nodup_range.filter _
  unfold Nodup at nd
  rw [pairwise_iff_forall_sublist] at nd ⊢
  intro a b hs e
  have ma := hs.subset (show a ∈ [a, b] by simp)
  have mb := hs.subset (show b ∈ [a, b] by simp)
  rw [mem_filter, mem_range] at ma mb
  exact nd hs (h2 a b ma.1 mb.1 ma.2 mb.2 e)
 ·intro y hy
  rw [mem_map] at hy
  obtain ⟨x, hx, rfl⟩ := hy
  rw [mem_filter, mem_range] at hx ⊢
  exact h1 x hx.1 hx.2

def fT (n : Nat) (t s : Nat → Nat) (r : Nat) : Nat → Nat := conj n (name n t s r) t

def fS (n : Nat) (t s : Nat → Nat) (r : Nat) : Nat → Nat := conj n (name n t s r) s

/-- a map that hangs together -/
structure IsMap (n : Nat) (t s : Nat → Nat) : Prop where
 pos : 0 < n
 bt : Bij n t
 bs : Bij n s
 co : ∀ x, x < n → conn n t s 0 x

theorem IsMap.conn {n : Nat} {t s : Nat → Nat} (h : IsMap n t s) {r x : Nat} (hr : r < n) (hx : x < n) : Sm.conn n t s r x := conn_trans (conn_symm (h.co r hr)) (h.co x hx)

theorem IsMap.name {n : Nat} {t s : Nat → Nat} (h : IsMap n t s) {r : Nat} (hr : r < n) : Bij n (Sm.name n t s r) := name_bij h.bt h.bs hr (fun _ hx => h.conn hr hx)

def same (n : Nat) (t s : Nat → Nat) (r r' : Nat) : Prop := ∀ y, y < n → fT n t s r y = fT n t s r' y ∧ fS n t s r y = fS n t s r' y

/-- a renaming that changes nothing -/
structure Aut (n : Nat) (t s g : Nat → Nat) : Prop where
 bij : Bij n g
 et : ∀ x, x < n → t (g x) = g (t x)
 es : ∀ x, x < n → s (g x) = g (s x)

theorem same_of_aut {n : Nat} {t s g : Nat → Nat} (h : IsMap n t s) (a : Aut n t s g) {r : Nat} (hr : r < n) : same n t s (g r) r := by
 intro y hy
 constructor
 ·exact form_map h.bt h.bs a.bij a.et a.es hr (fun _ hx => h.conn hr hx) h.bt a.et hy
 ·exact form_map h.bt h.bs a.bij a.et a.es hr (fun _ hx => h.conn hr hx) h.bs a.es hy

theorem aut_of_same {n : Nat} {t s : Nat → Nat} (h : IsMap n t s) {r r' : Nat} (hr : r < n) (hr' : r' < n) (e : same n t s r r') : ∃ g, Aut n t s g ∧ g r' = r := by
 have b := h.name hr
 have b' := h.name hr'
 refine ⟨fun x => finv n (name n t s r) (name n t s r' x), ⟨comp_bij (g := finv n (name n t s r)) b' (finv_bij b), ?_, ?_⟩, ?_⟩
 ·intro x hx
  have m := b'.1 x hx
  obtain ⟨z1, z2⟩ := finv_spec b m
  have e1 := (e _ m).1
  unfold fT at e1
  rw [conj_at b' hx] at e1
  have e2 := conj_at (f := t) b z1
  rw [z2, e1] at e2
  show t (finv n (name n t s r) (name n t s r' x)) = finv n (name n t s r) (name n t s r' (t x))
  rw [e2, finv_left b (h.bt.1 _ z1)]
 ·intro x hx
  have m := b'.1 x hx
  obtain ⟨z1, z2⟩ := finv_spec b m
  have e1 := (e _ m).2
  unfold fS at e1
  rw [conj_at b' hx] at e1
  have e2 := conj_at (f := s) b z1
  rw [z2, e1] at e2
  show s (finv n (name n t s r) (name n t s r' x)) = finv n (name n t s r) (name n t s r' (s x))
  rw [e2, finv_left b (h.bs.1 _ z1)]
 ·show finv n (name n t s r) (name n t s r' r') = r
  have e1 := name_root n t s r
  rw [name_root, ← e1, finv_left b hr]

theorem aut_unique {n : Nat} {t s g k : Nat → Nat} (h : IsMap n t s) (a : Aut n t s g) (b : Aut n t s k) {x : Nat} (hx : x < n) (e : g x = k x) {y : Nat} (hy : y < n) : g y = k y :=
 conn_closed h.bt h.bs (fun z => g z = k z) (fun z hz e => by rw [← a.et z hz, ← b.et z hz, e]) (fun z hz e => by rw [← a.es z hz, ← b.es z hz, e]) (h.conn hx hy) e

/-- each form is that of as many darts as each other one -/
theorem class_le {n : Nat} {t s : Nat → Nat} (h : IsMap n t s) {a b : Nat} (ha : a < n) (hb : b < n) (p q : Nat → Bool) (hp : ∀ x, x < n → (p x = true ↔ same n t s x a)) (hq : ∀ x, x < n → (q x = true ↔ same n t s x b)) : (List.range n).countP p ≤ (List.range n).countP q := by
 have ex : ∀ r, ∃ g : Nat → Nat, r < n → p r = true → Aut n t s g ∧ g a = r := by
  intro r
  by_cases hr : r < n
  ·by_cases c : p r = true
   ·obtain ⟨g, h1, h2⟩ := aut_of_same h hr ha ((hp r hr).1 c)
    exact ⟨g, fun _ _ => ⟨h1, h2⟩⟩
   ·exact ⟨id, fun _ d => (c d).elim⟩
  ·exact ⟨id, fun d => (hr d).elim⟩
 let G : Nat → Nat → Nat := fun r => Classical.choose (ex r)
 have hG : ∀ r, r < n → p r = true → Aut n t s (G r) ∧ G r a = r := fun r => Classical.choose_spec (ex r)
 refine countP_inj (fun r => G r b) ?_ ?_
 ·intro x hx px
  obtain ⟨h1, _⟩ := hG x hx px
  have lt := h1.bij.1 b hb
  exact ⟨lt, (hq _ lt).2 (same_of_aut h h1 hb)⟩
 ·intro x y hx hy px py e
  obtain ⟨h1, h2⟩ := hG x hx px
  obtain ⟨h3, h4⟩ := hG y hy py
  have := aut_unique h h1 h3 hb e ha
  omega

theorem class_eq {n : Nat} {t s : Nat → Nat} (h : IsMap n t s) {a b : Nat} (ha : a < n) (hb : b < n) (p q : Nat → Bool) (hp : ∀ x, x < n → (p x = true ↔ same n t s x a)) (hq : ∀ x, x < n → (q x = true ↔ same n t s x b)) : (List.range n).countP p = (List.range n).countP q :=
 Nat.le_antisymm (class_le h ha hb p q hp hq) (class_le h hb ha q p hq hp)

/-- the dual map -/
theorem dual_isMap {n : Nat} {t s : Nat → Nat} (h : IsMap n t s) (ss : ∀ x, x < n → s (s x) = x) : IsMap n (fun x => t (s x)) s := by
 refine ⟨h.pos, comp_bij h.bs h.bt, h.bs, fun x hx c hc => ?_⟩
 refine h.co x hx c fun y hy => ⟨?_, (hc y hy).2⟩
 have a := (hc (s y) (h.bs.1 y hy)).1
 rw [ss y hy] at a
 rw [a]; exact (hc y hy).2

theorem aut_dual {n : Nat} {t s g : Nat → Nat} (hs : Bij n s) (a : Aut n t s g) : Aut n (fun x => t (s x)) s g :=
 ⟨a.bij, fun x hx => by show t (s (g x)) = g (t (s x)); rw [a.es x hx, a.et _ (hs.1 x hx)], a.es⟩

theorem aut_undual {n : Nat} {t s g : Nat → Nat} (hs : Bij n s) (ss : ∀ x, x < n → s (s x) = x) (a : Aut n (fun x => t (s x)) s g) : Aut n t s g :=
 ⟨a.bij, fun x hx => by
  have e := a.et (s x) (hs.1 x hx)
  have e2 := a.es x hx
  have : t (s (g (s x))) = g (t (s (s x))) := e
  rw [← e2, ss _ (a.bij.1 x hx), ss x hx] at this
  exact this, a.es⟩

theorem same_dual {n : Nat} {t s : Nat → Nat} (h : IsMap n t s) (ss : ∀ x, x < n → s (s x) = x) {a b : Nat} (ha : a < n) (hb : b < n) : same n (fun x => t (s x)) s a b ↔ same n t s a b := by
 constructor
 ·intro e
  obtain ⟨g, h1, h2⟩ := aut_of_same (dual_isMap h ss) ha hb e
  rw [← h2]
  exact same_of_aut h (aut_undual h.bs ss h1) hb
 ·intro e
  obtain ⟨g, h1, h2⟩ := aut_of_same h ha hb e
  rw [← h2]
  exact same_of_aut (dual_isMap h ss) (aut_dual h.bs h1) hb

/-- counting by classes -/
theorem count_classes {α : Type} [BEq α] [LawfulBEq α] (F : Nat → α) (n c : Nat) (hc : ∀ a, a < n → (List.range n).countP (fun x => F x == F a) = c) (L : List α) (nd : L.Nodup) (hL : ∀ y, y ∈ L ↔ ∃ a, a < n ∧ F a = y) : n = L.length * c := by
 have key : ∀ L : List α, L.Nodup → (∀ y, y ∈ L → ∃ a, a < n ∧ F a = y) → (List.range n).countP (fun x => L.contains (F x)) = L.length * c := by
  intro L
  induction L with
  | nil => intro _ _; simp
  | cons y L ih =>
   intro nd hy
   rw [nodup_cons] at nd
   obtain ⟨a, ha, e⟩ := hy y (by simp)
   have i := ih nd.2 (fun z hz => hy z (by simp [hz]))
   have h1 := hc a ha
   rw [e] at h1
   rw [length_cons, Nat.add_mul, Nat.one_mul, ← i, ← h1]
   have : ∀ l : List Nat, l.countP (fun x => (y :: L).contains (F x)) = l.countP (fun x => L.contains (F x)) + l.countP (fun x => F x == y) := by
    intro l
    induction l with
    | nil => rfl
    | cons z l il =>
     rw [countP_cons, countP_cons, countP_cons, il, contains_cons]
     by_cases d : F z = y
     ·have : L.contains (F z) = false := by rw [d]; simpa using nd.1
      simp [d, this]; have : L.contains y = false := by simpa using nd.1
      simp at this; simp [this]; omega
     ·by_cases d2 : L.contains (F z) = true
      ·simp [d, d2]; simp at d2; simp [d2]; omega
      ·simp at d2; simp [d, d2]
   exact this _
 rw [← key L nd (fun y hy => (hL y).1 hy)]
 rw [countP_eq_length.2, length_range]
 intro a ha
 simp
 exact (hL _).2 ⟨a, by simpa using ha, rfl⟩

def cmp : List Int → List Int → Int
 | [], [] => 0
 | [], _ :: _ => -1
 | _ :: _, [] => 1
 | a :: l, b :: r => if a < b then -1 else if b < a then 1 else cmp l r

theorem cmp_self (l : List Int) : cmp l l = 0 := by
 induction l with
 | nil => rfl
 | cons a l ih => unfold cmp; rw [if_neg (by omega), if_neg (by omega)]; exact ih

theorem cmp_eq : ∀ l r : List Int, cmp l r = 0 → l = r
 | [], [], _ => rfl
 | [], _ :: _, h => by simp [cmp] at h
 | _ :: _, [], h => by simp [cmp] at h
 | a :: l, b :: r, h => by
  unfold cmp at h
  by_cases c : a < b
  ·rw [if_pos c] at h; omega
  ·by_cases d : b < a
   ·rw [if_neg c, if_pos d] at h; omega
   ·rw [if_neg c, if_neg d] at h
    rw [cmp_eq l r h, show a = b by omega]

/-- two pairs of lists: by the first ones, then by the second ones -/
def cmp2 (a b : List Int × List Int) : Int := if cmp a.1 b.1 = 0 then cmp a.2 b.2 else cmp a.1 b.1

theorem cmp2_self (a : List Int × List Int) : cmp2 a a = 0 := by unfold cmp2; rw [if_pos (cmp_self _)]; exact cmp_self _

theorem cmp2_eq {a b : List Int × List Int} : cmp2 a b = 0 ↔ a = b := by
 constructor
 ·intro h
  unfold cmp2 at h
  by_cases c : cmp a.1 b.1 = 0
  ·rw [if_pos c] at h
   exact Prod.ext (cmp_eq _ _ c) (cmp_eq _ _ h)
  ·rw [if_neg c] at h; exact (c h).elim
 ·rintro rfl; exact cmp2_self a

/-- the form of a map from a dart, as two lists -/
def form (n : Nat) (t s : Nat → Nat) (r : Nat) : List Int × List Int := (pm n (fT n t s r), pm n (fS n t s r))

theorem form_same {n : Nat} {t s : Nat → Nat} {r r' : Nat} : form n t s r = form n t s r' ↔ same n t s r r' := by
 unfold form same
 rw [Prod.mk.injEq, pm_ext, pm_ext]
 exact ⟨fun h y hy => ⟨h.1 y hy, h.2 y hy⟩, fun h => ⟨fun y hy => (h y hy).1, fun y hy => (h y hy).2⟩⟩
end Go.Proofs.Ytjnbbnaidjodlaa.Sm
namespace Go.Proofs.Ytjnbbnaidjodlaa.R
open Go.RowKit Go.Proofs.YtjnbbnaidjodlaaW.PrintWords Go.Proofs.YtjnbbnaidjodlaaW.PrintLast Go.Proofs.YtjnbbnaidjodlaaW.PrintMore Go.Proofs.Ytjnbbnaidjodlaa.F Go.Proofs.Ytjnbbnaidjodlaa.Sm
theorem Ev.pos {α : Type} {c : Prop} [Decidable c] {A B : Nat → Option α} {r : α} (h : c) (k : Ev A r) : Ev (fun n => if c then A n else B n) r := by
 simp only [if_pos h]; exact k

theorem Ev.neg {α : Type} {c : Prop} [Decidable c] {A B : Nat → Option α} {r : α} (h : ¬ c) (k : Ev B r) : Ev (fun n => if c then A n else B n) r := by
 simp only [if_neg h]; exact k

theorem Ev.bind1 {α β : Type} {g : Nat → Option α} {f : Nat → α → Option β} {a : α} {r : β} (h : Ev g a) (k : Ev (fun n => f n a) r) : Ev (fun n => (g n).bind (f n)) r := Ev.bind h k

theorem Ev.some1 {α β : Type} {f : Nat → α → Option β} {a : α} {r : β} (k : Ev (fun n => f n a) r) : Ev (fun n => (some a).bind (f n)) r := k

theorem wrap_nat {i : Nat} (h : i < 9223372036854775807) : wrap64 ((i : Int) + 1) = ((i + 1 : Nat) : Int) := by unfold wrap64; omega

theorem wrap_in {n : Int} (h1 : -9223372036854775808 ≤ n) (h2 : n ≤ 9223372036854775807) : wrap64 n = n := by unfold wrap64; omega

theorem rd_get {l : List Int} {i : Nat} (h : i < l.length) : rd l (i : Int) = l[i] := by
 unfold rd; simp [h]

theorem rd_pm {n : Nat} {f : Nat → Nat} {i : Nat} (h : i < n) : rd (pm n f) (i : Int) = (f i : Int) := by
 unfold rd; exact pm_getD n f i h

/-- a list that is a permutation -/
def IsPerm (n : Nat) (l : List Int) (f : Nat → Nat) : Prop := 1 ≤ n ∧ n ≤ 12 ∧ Bij n f ∧ l = pm n f

theorem valid_iff (l : List Int) : impl_PermValid.validB l = true ↔ ∃ f, IsPerm l.length l f := by
 unfold impl_PermValid.validB
 simp only [Bool.and_eq_true, decide_eq_true_eq, List.all_eq_true, List.mem_range]
 constructor
 ·rintro ⟨⟨h1, h2⟩, h3⟩
  have h3' : ∀ i, i < l.length → 0 ≤ rd l i ∧ rd l i < l.length ∧ ∀ j, j < i → rd l j ≠ rd l i := by
   intro i hi
   have := h3 i hi
   unfold impl_PermValid.okAt at this
   simp only [Bool.and_eq_true, decide_eq_true_eq, Bool.not_eq_true', List.contains_eq_mem, decide_eq_false_iff_not] at this
   refine ⟨this.1.1, this.1.2, fun j hj e => this.2 ?_⟩
   rw [← e, rd_get (show j < l.length by omega)]
   rw [List.mem_iff_getElem]
   exact ⟨j, by simp; omega, by simp⟩
  refine ⟨fun i => (rd l i).toNat, h1, h2, ⟨fun i hi => by have := h3' i hi; show (rd l i).toNat < _; omega, fun i j hi hj e => ?_⟩, ?_⟩
  ·have a := h3' i hi
   have b := h3' j hj
   have e' : (rd l i).toNat = (rd l j).toNat := e
   rcases Nat.lt_trichotomy i j with c | c | c
   ·exact (b.2.2 i c (by omega)).elim
   ·exact c
   ·exact (a.2.2 j c (by omega)).elim
  ·refine eq_pm _ _ _ rfl fun i hi => ?_
   have := h3' i hi
   show l.getD i 0 = (((rd l i).toNat : Nat) : Int)
   have e : l.getD i 0 = rd l i := rfl
   omega
 ·rintro ⟨f, h1, h2, hf, e⟩
  refine ⟨⟨h1, h2⟩, fun i hi => ?_⟩
  have r : ∀ j, j < l.length → rd l j = (f j : Int) := fun j hj => by
   have := rd_pm (n := l.length) (f := f) hj
   rwa [← e] at this
  unfold impl_PermValid.okAt
  simp only [Bool.and_eq_true, decide_eq_true_eq, Bool.not_eq_true', List.contains_eq_mem, decide_eq_false_iff_not]
  refine ⟨⟨by rw [r i hi]; omega, by rw [r i hi]; have := hf.1 i hi; omega⟩, fun hm => ?_⟩
  rw [List.mem_iff_getElem] at hm
  obtain ⟨j, hj, ej⟩ := hm
  have hj' : j < i := by simp at hj; omega
  have : l[j]'(by omega) = rd l i := by simpa using ej
  rw [← rd_get (show j < l.length by omega), r i hi, r j (by omega)] at this
  have := hf.2 j i (by omega) hi (by omega)
  omega

theorem implValid_ev (l : List Int) : Ev (fun _ => impl_PermValid.f l) (impl_PermValid.validB l) := Ev.now _

/-- the reference's look: up to i all is well -/
theorem specValid_ev (l : List Int) (hl : l.length ≤ 4294967296) : Ev (fun k => spec_PermValid.f k l) (impl_PermValid.validB l) := by
 have e0 : ∀ (a b c : Int), spec_l6In.f a b c = some (decide (b ≤ a) && decide (a ≤ c)) := by
  intro a b c
  unfold spec_l6In.f
  by_cases h : b ≤ a
  ·rw [if_pos h]; simp [h]
  ·rw [if_neg h]; simp [h]
 -- the inner loop
 have inner : ∀ d i j, i < l.length → j + d = i → (∀ m, m < j → rd l m ≠ rd l i) → ∀ r, ((∀ m, m < i → rd l m ≠ rd l i) → Ev (fun k => spec_PermValid.l0 k l ((i + 1 : Nat) : Int)) r) → ((∃ m, m < i ∧ rd l m = rd l i) → r = false) → Ev (fun k => spec_PermValid.l1 k l (i : Int) (j : Int)) r := by
  intro d
  induction d with
  | zero =>
   intro i j hi hj hm r h1 h2
   refine Ev.step (f := fun k => spec_PermValid.l0 k l ((i + 1 : Nat) : Int)) (fun k => by rw [spec_PermValid.l1, if_neg (by omega), wrap_nat (by omega)]) ?_
   exact h1 (fun m hmi => hm m (by omega))
  | succ d ih =>
   intro i j hi hj hm r h1 h2
   by_cases c : rd l (j : Int) = rd l (i : Int)
   ·have := h2 ⟨j, by omega, c⟩
    subst this
    refine Ev.step (f := fun k => some false) (fun k => by
     rw [spec_PermValid.l1, if_pos (by omega), if_pos (by omega), if_pos (by omega), if_pos (by omega), if_pos (by omega), if_pos c]) (Ev.now _)
   ·refine Ev.step (f := fun k => spec_PermValid.l1 k l (i : Int) ((j + 1 : Nat) : Int)) (fun k => by
     rw [spec_PermValid.l1, if_pos (by omega), if_pos (by omega), if_pos (by omega), if_pos (by omega), if_pos (by omega), if_neg c, wrap_nat (by omega)]) ?_
    refine ih i (j + 1) hi (by omega) (fun m hm' => ?_) r h1 h2
    by_cases e : m = j
    ·subst e; exact c
    ·exact hm m (by omega)
 have outer : ∀ d i, i + d = l.length → (∀ m, m < i → impl_PermValid.okAt l m = true) → Ev (fun k => spec_PermValid.l0 k l (i : Int)) (impl_PermValid.validB l) := by
  intro d
  induction d with
  | zero =>
   intro i hi hm
   have e : impl_PermValid.validB l = (decide ((1 : Int) ≤ (l.length : Int)) && decide ((l.length : Int) ≤ 12)) := by
    unfold impl_PermValid.validB
    have : (List.range l.length).all (impl_PermValid.okAt l) = true := by
     rw [List.all_eq_true]; intro m hm'; exact hm m (by have := List.mem_range.1 hm'; omega)
    rw [this]
    rw [Bool.and_true]
    congr 1
    ·simp; omega
    ·simp; omega
   refine Ev.step (f := fun _ => some (impl_PermValid.validB l)) (fun k => by rw [spec_PermValid.l0, if_neg (by omega), e0, e]; rfl) (Ev.now _)
  | succ d ih =>
   intro i hi hm
   have hil : i < l.length := by omega
   have fail : impl_PermValid.okAt l i = false → impl_PermValid.validB l = false := impl_PermValid.valid_fail l i hil
   have ew : wrap64 ((l.length : Int) - 1) = (l.length : Int) - 1 := wrap_in (by omega) (by omega)
   by_cases c : 0 ≤ rd l (i : Int) ∧ rd l (i : Int) ≤ (l.length : Int) - 1
   ·refine Ev.step (f := fun k => spec_PermValid.l1 k l (i : Int) ((0 : Nat) : Int)) (fun k => by
     rw [spec_PermValid.l0, if_pos (by omega), if_pos (by omega), e0, ew]
     simp only [Option.bind_some]
     rw [if_pos (by simp [c.1, c.2])]; rfl) ?_
    refine inner i i 0 hil (by omega) (fun m hm' => absurd hm' (by omega)) _ (fun hd => ?_) (fun hd => ?_)
    ·refine ih (i + 1) (by omega) (fun m hm' => ?_)
     by_cases e : m = i
     ·subst e
      unfold impl_PermValid.okAt
      simp only [Bool.and_eq_true, decide_eq_true_eq, Bool.not_eq_true', List.contains_eq_mem, decide_eq_false_iff_not]
      refine ⟨⟨c.1, by omega⟩, fun hx => ?_⟩
      rw [List.mem_iff_getElem] at hx
      obtain ⟨j, hj, ej⟩ := hx
      have hj' : j < m := by simp at hj; omega
      have : l[j]'(by omega) = rd l m := by simpa using ej
      rw [← rd_get (show j < l.length by omega)] at this
      exact hd j hj' this
     ·exact hm m (by omega)
    ·obtain ⟨m, hmi, em⟩ := hd
     apply fail
     unfold impl_PermValid.okAt
     have : (l.take i).contains (rd l i) = true := by
      rw [List.contains_eq_mem, decide_eq_true_eq, ← em, rd_get (show m < l.length by omega), List.mem_iff_getElem]
      exact ⟨m, by simp; omega, by simp⟩
     simp only [this, Bool.not_true, Bool.and_false]
   ·have : impl_PermValid.validB l = false := by
     apply fail
     unfold impl_PermValid.okAt
     by_cases c1 : 0 ≤ rd l (i : Int)
     ·have : ¬ rd l (i : Int) < l.length := by omega
      simp [this]
     ·simp [c1]
    rw [this]
    refine Ev.step (f := fun k => some false) (fun k => by
     rw [spec_PermValid.l0, if_pos (by omega), if_pos (by omega), e0, ew]
     simp only [Option.bind_some]
     rw [if_neg]
     simp only [Bool.and_eq_true, decide_eq_true_eq]
     exact c) (Ev.now _)
 unfold spec_PermValid.f
 exact outer l.length 0 (by omega) (fun m hm => absurd hm (by omega))

theorem rd_set {s : List Int} {a b : Nat} {v : Int} (h : a < s.length) : rd (s.set a v) (b : Int) = if a = b then v else rd s (b : Int) := by
 unfold rd
 simp only [Int.toNat_natCast, List.getD_eq_getElem?_getD, List.getElem?_set]
 by_cases e : a = b
 ·subst e; simp [h]
 ·simp [e]

theorem eq_pm' {n : Nat} {f : Nat → Nat} {l : List Int} (hl : l.length = n) (h : ∀ i, i < n → rd l (i : Int) = (f i : Int)) : l = pm n f :=
 eq_pm n f l hl fun i hi => by have := h i hi; unfold rd at this; simpa using this

theorem sameInts_loop (a b : List Int) (hl : a.length = b.length) (hb : a.length ≤ 4294967296) : ∀ d i, i + d = a.length → Ev (fun k => laws_sameInts.l0 k a b (i : Int)) (decide (a.drop i = b.drop i)) := by
 intro d
 induction d with
 | zero =>
  intro i hi
  refine Ev.step (f := fun _ => some true) (fun k => by rw [laws_sameInts.l0, if_neg (by omega)]) ?_
  rw [List.drop_of_length_le (by omega), List.drop_of_length_le (by omega)]
  exact Ev.now _
 | succ d ih =>
  intro i hi
  have ha : i < a.length := by omega
  have hb' : i < b.length := by omega
  rw [List.drop_eq_getElem_cons ha, List.drop_eq_getElem_cons hb']
  by_cases c : a[i] = b[i]
  ·refine Ev.step (f := fun k => laws_sameInts.l0 k a b ((i + 1 : Nat) : Int)) (fun k => by
    rw [laws_sameInts.l0, if_pos (by omega), if_pos (by omega), if_pos (by omega), rd_get ha, rd_get hb', if_pos c, wrap_nat (by omega)]) ?_
   have e : decide (a[i] :: a.drop (i + 1) = b[i] :: b.drop (i + 1)) = decide (a.drop (i + 1) = b.drop (i + 1)) := by
    simp only [List.cons.injEq, c, true_and]
   rw [e]
   exact ih (i + 1) (by omega)
  ·refine Ev.step (f := fun k => some false) (fun k => by
    rw [laws_sameInts.l0, if_pos (by omega), if_pos (by omega), if_pos (by omega), rd_get ha, rd_get hb', if_neg c]) ?_
   have : decide (a[i] :: a.drop (i + 1) = b[i] :: b.drop (i + 1)) = false := by
    simp only [List.cons.injEq, c, false_and, decide_false]
   rw [this]
   exact Ev.now _

theorem sameInts_ev {a b : List Int} (hb : a.length ≤ 4294967296) : Ev (fun k => laws_sameInts.f k a b) (decide (a = b)) := by
 unfold laws_sameInts.f
 by_cases c : a.length = b.length
 ·refine Ev.pos (by omega) ?_
  exact sameInts_loop a b c hb a.length 0 (by omega)
 ·have : decide (a = b) = false := by simp; intro e; exact c (by rw [e])
  rw [this]
  exact Ev.neg (by omega) (Ev.now _)

theorem still_ev {n : Nat} (hn : n ≤ 1000) : Ev (fun k => impl_still.f k (n : Int)) (pm n fun i => i) := by
 have loop : ∀ d i (s : List Int), i + d = n → s.length = n → (∀ j, j < i → rd s (j : Int) = (j : Int)) → Ev (fun k => impl_still.l0 k s (n : Int) (i : Int)) (pm n fun i => i) := by
  intro d
  induction d with
  | zero =>
   intro i s hi hs h
   refine Ev.step (f := fun _ => some s) (fun k => by rw [impl_still.l0, if_neg (by omega)]) ?_
   rw [eq_pm' (f := fun i => i) hs (fun j hj => h j (by omega))]
   exact Ev.now _
  | succ d ih =>
   intro i s hi hs h
   refine Ev.step (f := fun k => impl_still.l0 k (s.set i (i : Int)) (n : Int) ((i + 1 : Nat) : Int)) (fun k => by
    rw [impl_still.l0, if_pos (by omega), if_pos (by omega), if_pos (by omega), wrap_nat (by omega)]; rfl) ?_
   refine ih (i + 1) _ (by omega) (by simp [hs]) (fun j hj => ?_)
   rw [rd_set (by omega)]
   by_cases e : i = j
   ·rw [if_pos e, e]
   ·rw [if_neg e]; exact h j (by omega)
 unfold impl_still.f
 refine Ev.pos (by omega) (Ev.pos (by omega) ?_)
 have := loop n 0 (List.replicate n 0) (by omega) (by simp) (fun j hj => absurd hj (by omega))
 simpa using this

theorem l1Same_ev {n : Nat} (hn : n ≤ 1000) : Ev (fun k => spec_l1Same.f k (n : Int)) (pm n fun i => i) := by
 have loop : ∀ d i, i + d = n → Ev (fun k => spec_l1Same.l0 k (n : Int) (pm i fun i => i) (i : Int)) (pm n fun i => i) := by
  intro d
  induction d with
  | zero =>
   intro i hi
   have e : i = n := by omega
   subst e
   exact Ev.step (f := fun _ => some (pm i fun i => i)) (fun k => by rw [spec_l1Same.l0, if_neg (by omega)]) (Ev.now _)
  | succ d ih =>
   intro i hi
   refine Ev.step (f := fun k => spec_l1Same.l0 k (n : Int) (pm (i + 1) fun i => i) ((i + 1 : Nat) : Int)) (fun k => by
    rw [spec_l1Same.l0, if_pos (by omega), if_pos (by rw [pm_length]; omega), wrap_nat (by omega)]
    simp [pm, List.range_succ]) (ih (i + 1) (by omega))
 unfold spec_l1Same.f
 exact loop n 0 (by omega)

theorem mul_ev {n : Nat} {f g : Nat → Nat} (hn : n ≤ 1000) (hf : ∀ i, i < n → f i < n) : Ev (fun k => impl_mul.f k (pm n f) (pm n g)) (pm n fun i => g (f i)) := by
 have loop : ∀ d i (s : List Int), i + d = n → s.length = n → (∀ j, j < i → rd s (j : Int) = (g (f j) : Int)) → Ev (fun k => impl_mul.l0 k (pm n g) s (pm n f) (n : Int) (i : Int)) (pm n fun i => g (f i)) := by
  intro d
  induction d with
  | zero =>
   intro i s hi hs h
   refine Ev.step (f := fun _ => some s) (fun k => by rw [impl_mul.l0, if_neg (by omega)]) ?_
   rw [eq_pm' (f := fun i => g (f i)) hs (fun j hj => h j (by omega))]
   exact Ev.now _
  | succ d ih =>
   intro i s hi hs h
   have hfi := hf i (by omega)
   refine Ev.step (f := fun k => impl_mul.l0 k (pm n g) (s.set i (g (f i) : Int)) (pm n f) (n : Int) ((i + 1 : Nat) : Int)) (fun k => by
    rw [impl_mul.l0, if_pos (by omega), if_pos (by omega), if_pos (by rw [pm_length]; omega), rd_pm (by omega), if_pos (by omega), if_pos (by rw [pm_length]; omega), if_pos (by omega), wrap_nat (by omega), rd_pm hfi]; rfl) ?_
   refine ih (i + 1) _ (by omega) (by simp [hs]) (fun j hj => ?_)
   rw [rd_set (by omega)]
   by_cases e : i = j
   ·rw [if_pos e, e]
   ·rw [if_neg e]; exact h j (by omega)
 unfold impl_mul.f
 simp only [pm_length]
 refine Ev.pos (by omega) (Ev.pos (by omega) ?_)
 have := loop n 0 (List.replicate n 0) (by omega) (by simp) (fun j hj => absurd hj (by omega))
 simpa using this

theorem l1Mul_ev {n : Nat} {f g : Nat → Nat} (hn : n ≤ 1000) (hf : ∀ i, i < n → f i < n) : Ev (fun k => spec_l1Mul.f k (pm n f) (pm n g)) (pm n fun i => g (f i)) := by
 have loop : ∀ d i, i + d = n → Ev (fun k => spec_l1Mul.l0 k (pm n f) (pm n g) (pm i fun i => g (f i)) (i : Int)) (pm n fun i => g (f i)) := by
  intro d
  induction d with
  | zero =>
   intro i hi
   have e : i = n := by omega
   subst e
   exact Ev.step (f := fun _ => some (pm i fun i => g (f i))) (fun k => by rw [spec_l1Mul.l0, if_neg (by rw [pm_length]; omega)]) (Ev.now _)
  | succ d ih =>
   intro i hi
   have hfi := hf i (by omega)
   refine Ev.step (f := fun k => spec_l1Mul.l0 k (pm n f) (pm n g) (pm (i + 1) fun i => g (f i)) ((i + 1 : Nat) : Int)) (fun k => by
    rw [spec_l1Mul.l0, if_pos (by rw [pm_length]; omega), if_pos (by omega), rd_pm (by omega), if_pos (by omega), if_pos (by rw [pm_length]; omega), if_pos (by rw [pm_length]; omega), wrap_nat (by omega), rd_pm hfi]
    simp [pm, List.range_succ]) (ih (i + 1) (by omega))
 unfold spec_l1Mul.f
 exact loop n 0 (by omega)

theorem back_end {n : Nat} {f : Nat → Nat} (hf : Bij n f) {s : List Int} (hs : s.length = n) (h : ∀ j, j < n → rd s (f j : Int) = (j : Int)) : s = pm n (finv n f) := by
 refine eq_pm' hs fun y hy => ?_
 obtain ⟨h1, h2⟩ := finv_spec hf hy
 have := h _ h1
 rwa [h2] at this

theorem back_step {n : Nat} {f : Nat → Nat} (hf : Bij n f) {s : List Int} (hs : s.length = n) {i : Nat} (hi : i < n) (h : ∀ j, j < i → rd s (f j : Int) = (j : Int)) : ∀ j, j < i + 1 → rd (s.set (f i) (i : Int)) (f j : Int) = (j : Int) := by
 intro j hj
 rw [rd_set (by have := hf.1 i hi; omega)]
 by_cases e : i = j
 ·subst e; rw [if_pos rfl]
 ·rw [if_neg (fun d => e (hf.2 i j hi (by omega) d))]; exact h j (by omega)

theorem back_ev {n : Nat} {f : Nat → Nat} (hn : n ≤ 1000) (hf : Bij n f) : Ev (fun k => impl_back.f k (pm n f)) (pm n (finv n f)) := by
 have loop : ∀ d i (s : List Int), i + d = n → s.length = n → (∀ j, j < i → rd s (f j : Int) = (j : Int)) → Ev (fun k => impl_back.l0 k s (pm n f) (n : Int) (i : Int)) (pm n (finv n f)) := by
  intro d
  induction d with
  | zero =>
   intro i s hi hs h
   refine Ev.step (f := fun _ => some s) (fun k => by rw [impl_back.l0, if_neg (by omega)]) ?_
   rw [back_end hf hs (fun j hj => h j (by omega))]
   exact Ev.now _
  | succ d ih =>
   intro i s hi hs h
   have hfi := hf.1 i (by omega)
   refine Ev.step (f := fun k => impl_back.l0 k (s.set (f i) (i : Int)) (pm n f) (n : Int) ((i + 1 : Nat) : Int)) (fun k => by
    rw [impl_back.l0, if_pos (by omega), if_pos (by omega), if_pos (by rw [pm_length]; omega), rd_pm (by omega), if_pos (by omega), if_pos (by omega), wrap_nat (by omega)]; rfl) ?_
   exact ih (i + 1) _ (by omega) (by simp [hs]) (back_step hf hs (by omega) h)
 unfold impl_back.f
 simp only [pm_length]
 refine Ev.pos (by omega) (Ev.pos (by omega) ?_)
 have := loop n 0 (List.replicate n 0) (by omega) (by simp) (fun j hj => absurd hj (by omega))
 simpa using this

theorem l1Back_ev {n : Nat} {f : Nat → Nat} (hn : n ≤ 1000) (hf : Bij n f) : Ev (fun k => spec_l1Back.f k (pm n f)) (pm n (finv n f)) := by
 have loop : ∀ d i (s : List Int), i + d = n → s.length = n → (∀ j, j < i → rd s (f j : Int) = (j : Int)) → Ev (fun k => spec_l1Back.l0 k (pm n f) s (i : Int)) (pm n (finv n f)) := by
  intro d
  induction d with
  | zero =>
   intro i s hi hs h
   refine Ev.step (f := fun _ => some s) (fun k => by rw [spec_l1Back.l0, if_neg (by rw [pm_length]; omega)]) ?_
   rw [back_end hf hs (fun j hj => h j (by omega))]
   exact Ev.now _
  | succ d ih =>
   intro i s hi hs h
   have hfi := hf.1 i (by omega)
   refine Ev.step (f := fun k => spec_l1Back.l0 k (pm n f) (s.set (f i) (i : Int)) ((i + 1 : Nat) : Int)) (fun k => by
    rw [spec_l1Back.l0, if_pos (by rw [pm_length]; omega), if_pos (by omega), rd_pm (by omega), if_pos (by omega), if_pos (by omega), wrap_nat (by omega)]; rfl) ?_
   exact ih (i + 1) _ (by omega) (by simp [hs]) (back_step hf hs (by omega) h)
 unfold spec_l1Back.f
 simp only [pm_length]
 refine Ev.pos (by omega) (Ev.pos (by omega) ?_)
 have := loop n 0 (List.replicate n 0) (by omega) (by simp) (fun j hj => absurd hj (by omega))
 simpa using this

/-- two lists that are permutations of as many points -/
def both (a b : List Int) : Bool := impl_PermValid.validB a && impl_PermValid.validB b && decide (a.length = b.length)

theorem both_iff (a b : List Int) : both a b = true ↔ ∃ n f g, IsPerm n a f ∧ IsPerm n b g := by
 unfold both
 simp only [Bool.and_eq_true, decide_eq_true_eq, valid_iff]
 constructor
 ·rintro ⟨⟨⟨f, hf⟩, g, hg⟩, e⟩
  rw [← e] at hg
  exact ⟨_, f, g, hf, hg⟩
 ·rintro ⟨n, f, g, hf, hg⟩
  have e1 : a.length = n := by rw [hf.2.2.2, pm_length]
  have e2 : b.length = n := by rw [hg.2.2.2, pm_length]
  rw [e1, e2]
  exact ⟨⟨⟨f, hf⟩, g, hg⟩, rfl⟩

theorem l1Both_ev {a b : List Int} (ha : a.length ≤ 4294967296) (hb : b.length ≤ 4294967296) : Ev (fun k => spec_l1Both.f k a b) (both a b) := by
 unfold spec_l1Both.f both
 refine Ev.bind1 (specValid_ev a ha) ?_
 cases c : impl_PermValid.validB a with
 | false => exact Ev.neg (by simp) (Ev.now _)
 | true =>
  refine Ev.pos rfl (Ev.bind1 (specValid_ev b hb) ?_)
  cases d : impl_PermValid.validB b with
  | false => exact Ev.neg (by simp) (Ev.now _)
  | true =>
   refine Ev.pos rfl ?_
   have : ((a.length : Int) == (b.length : Int)) = (true && true && decide (a.length = b.length)) := by
    by_cases e : a.length = b.length
    ·simp [e]
    ·have : ¬ (a.length : Int) = (b.length : Int) := by omega
     simp [e, this]
   rw [this]
   exact Ev.now _

theorem pm_map {n : Nat} {f g : Nat → Nat} (hf : ∀ i, i < n → f i < n) : (pm n f).map (fun x => rd (pm n g) x) = pm n fun i => g (f i) := by
 unfold pm
 rw [List.map_map]
 apply List.map_congr_left
 intro i hi
 show rd (pm n g) ((f i : Nat) : Int) = _
 rw [rd_pm (hf i (by simpa using hi))]

/-- the way back, or no answer -/
noncomputable def backR (a : List Int) : List Int × Bool := if impl_PermValid.validB a = true then (pm a.length (finv a.length fun i => (rd a (i : Int)).toNat), true) else ([], false)

theorem finv_congr {n : Nat} {f g : Nat → Nat} (h : ∀ i, i < n → f i = g i) : finv n f = finv n g := by
 funext y
 unfold finv
 congr 1
 have : ∀ l : List Nat, (∀ i, i ∈ l → i < n) → l.find? (fun i => f i == y) = l.find? (fun i => g i == y) := by
  intro l
  induction l with
  | nil => intro _; rfl
  | cons a l ih => intro hl; simp only [List.find?_cons]; rw [h a (hl a (by simp)), ih (fun i hi => hl i (by simp [hi]))]
 exact this _ (fun i hi => by simpa using hi)

theorem backR_perm {n : Nat} {a : List Int} {f : Nat → Nat} (h : IsPerm n a f) : backR a = (pm n (finv n f), true) := by
 have e1 : a.length = n := by rw [h.2.2.2, pm_length]
 have v : impl_PermValid.validB a = true := (valid_iff a).2 ⟨f, by rw [e1]; exact h⟩
 unfold backR
 rw [if_pos v, e1]
 congr 2
 apply finv_congr
 intro i hi
 rw [h.2.2.2, rd_pm hi]; simp

def ints (l : List Nat) : List Int := l.map fun (x : Nat) => (x : Int)

theorem isPerm_rd {n : Nat} {a : List Int} {f : Nat → Nat} (h : IsPerm n a f) : ∀ i, i < n → (rd a (i : Int)).toNat = f i := by
 intro i hi; rw [h.2.2.2, rd_pm hi]; simp

theorem isPerm_len {n : Nat} {a : List Int} {f : Nat → Nat} (h : IsPerm n a f) : a.length = n := by rw [h.2.2.2, pm_length]

theorem isPerm_valid {n : Nat} {a : List Int} {f : Nat → Nat} (h : IsPerm n a f) : impl_PermValid.validB a = true :=
 (valid_iff a).2 ⟨f, by rw [isPerm_len h]; exact h⟩

noncomputable def conjR (a b : List Int) : List Int × Bool := if both a b = true then (((backR b).1.map (fun x => rd a x)).map (fun x => rd b x), true) else ([], false)

theorem conjR_perm {n : Nat} {a b : List Int} {f g : Nat → Nat} (h : IsPerm n a f) (k : IsPerm n b g) : conjR a b = (pm n (conj n g f), true) := by
 have c : both a b = true := (both_iff a b).2 ⟨n, f, g, h, k⟩
 unfold conjR
 rw [if_pos c, backR_perm k]
 show (((pm n (finv n g)).map fun x => rd a x).map (fun x => rd b x), true) = _
 rw [h.2.2.2, pm_map (finv_bij k.2.2.1).1, k.2.2.2, pm_map (comp_bij (finv_bij k.2.2.1) h.2.2.1).1]
 rfl

theorem specConj_ev {a b : List Int} (ha : a.length ≤ 4294967296) (hb : b.length ≤ 4294967296) : Ev (fun k => spec_PermConj.f k a b) (conjR a b) := by
 unfold spec_PermConj.f
 refine Ev.bind1 (l1Both_ev ha hb) ?_
 by_cases c : both a b = true
 ·refine Ev.pos c ?_
  obtain ⟨n, f, g, hf, hg⟩ := (both_iff a b).1 c
  rw [conjR_perm hf hg]
  have h12 := hf.2.1
  rw [hf.2.2.2, hg.2.2.2]
  exact Ev.bind1 (l1Back_ev (by omega) hg.2.2.1) (Ev.bind1 (l1Mul_ev (by omega) (finv_bij hg.2.2.1).1) (Ev.bind1 (l1Mul_ev (by omega) (comp_bij (finv_bij hg.2.2.1) hf.2.2.1).1) (Ev.now _)))
 ·unfold conjR
  rw [if_neg c]
  exact Ev.neg c (Ev.now _)

theorem ints_len (l : List Nat) : (ints l).length = l.length := by simp [ints]

theorem ints_rd {l : List Nat} {i : Nat} (h : i < l.length) : rd (ints l) (i : Int) = (l[i] : Int) := by
 rw [rd_get (by rw [ints_len]; exact h)]; simp [ints]

theorem clone_ev {a : List Int} (h : a.length ≤ 1048576) : Ev (fun _ => slices_Clone_int_int.f a) a := by
 unfold slices_Clone_int_int.f
 exact Ev.pos (by omega) (Ev.now _)

theorem mn_nat (a b : Nat) : mn (a : Int) (b : Int) = ((min a b : Nat) : Int) := by
 unfold mn
 rcases Nat.lt_or_ge b a with c | c
 ·rw [if_pos (by omega), Nat.min_def, if_neg (by omega)]
 ·rw [if_neg (by omega), Nat.min_def, if_pos c]

/-- o where i and j are told the number v -/
def up2 (o : Nat → Nat) (i j v : Nat) (x : Nat) : Nat := if j = x then v else if i = x then v else o x

theorem set2_pm {n : Nat} {o : Nat → Nat} {i j v : Nat} (hi : i < n) (hj : j < n) : ((pm n o).set i (v : Int)).set j (v : Int) = pm n (up2 o i j v) := by
 refine eq_pm' (by simp [pm_length]) fun x hx => ?_
 rw [rd_set (by simp [pm_length]; exact hj), rd_set (by rw [pm_length]; exact hi), rd_pm hx]
 unfold up2
 by_cases c : j = x
 ·simp [c]
 ·by_cases d : i = x
  ·simp [c, d]
  ·simp [c, d]

/-- what stays true of o -/
structure Oks (n : Nat) (a b o : Nat → Nat) : Prop where
 le : ∀ x, x < n → o x ≤ x
 conn : ∀ x, x < n → conn n a b x (o x)

theorem Oks.start (n : Nat) (a b : Nat → Nat) : Oks n a b (fun i => i) := ⟨fun _ _ => Nat.le_refl _, fun x _ => conn_refl n a b x⟩

theorem Oks.up {n : Nat} {a b o : Nat → Nat} (h : Oks n a b o) {i j : Nat} (hi : i < n) (hj : j < n) (hc : Sm.conn n a b i j) : Oks n a b (up2 o i j (min (o i) (o j))) := by
 have ci : Sm.conn n a b i (min (o i) (o j)) := by
  rw [Nat.min_def]
  split
  ·exact h.conn i hi
  ·exact conn_trans hc (h.conn j hj)
 refine ⟨fun x hx => ?_, fun x hx => ?_⟩
 ·unfold up2
  have e1 := h.le i hi
  have e2 := h.le j hj
  have m1 : min (o i) (o j) ≤ o i := Nat.min_le_left _ _
  have m2 : min (o i) (o j) ≤ o j := Nat.min_le_right _ _
  split
  ·omega
  ·split
   ·omega
   ·exact h.le x hx
 ·unfold up2
  split
  ·rename_i e; subst e; exact conn_trans (conn_symm hc) ci
  ·split
   ·rename_i e; subst e; exact ci
   ·exact h.conn x hx

def total (o : Nat → Nat) : Nat → Nat
 | 0 => 0
 | n + 1 => total o n + o n

theorem total_le {o o' : Nat → Nat} {n : Nat} (h : ∀ x, x < n → o' x ≤ o x) : total o' n ≤ total o n := by
 induction n with
 | zero => exact Nat.le_refl _
 | succ n ih =>
  have := ih (fun x hx => h x (by omega))
  have := h n (by omega)
  simp only [total]; omega

theorem total_lt {o o' : Nat → Nat} {n : Nat} (h : ∀ x, x < n → o' x ≤ o x) {y : Nat} (hy : y < n) (hlt : o' y < o y) : total o' n < total o n := by
 induction n with
 | zero => omega
 | succ n ih =>
  simp only [total]
  by_cases c : y = n
  ·subst c
   have := total_le (o := o) (o' := o') (n := y) (fun x hx => h x (by omega))
   omega
  ·have := ih (fun x hx => h x (by omega)) (by omega)
   have := h n (by omega)
   omega

theorem up2_le {o : Nat → Nat} {i j : Nat} (x : Nat) : up2 o i j (min (o i) (o j)) x ≤ o x := by
 unfold up2
 have m1 : min (o i) (o j) ≤ o i := Nat.min_le_left _ _
 have m2 : min (o i) (o j) ≤ o j := Nat.min_le_right _ _
 split
 ·rename_i e; subst e; exact m2
 ·split
  ·rename_i e; subst e; exact m1
  ·exact Nat.le_refl _

def OrbEnd (n : Nat) (a b : Nat → Nat) (r : List Int) : Prop := ∃ o, IsOrb n a b o ∧ r = pm n o

/-- one way through a permutation -/
theorem orbits_pass {n : Nat} {a b p : Nat → Nat} (hn : n ≤ 1000) (hp : Bij n p) (hc : ∀ i, i < n → conn n a b i (p i)) (q : Nat) (ls : List (List Int)) :
 ∀ d i (o o0 : Nat → Nat) (fl : Bool), i + d = n → Oks n a b o →
  (∀ x, x < n → o x ≤ o0 x) → (fl = false → ∀ x, x < n → o x = o0 x) → (fl = true → total o n < total o0 n) → (fl = false → ∀ x, x < i → o (p x) = o x) →
  (∀ o' fl', Oks n a b o' → (∀ x, x < n → o' x ≤ o0 x) → (fl' = false → ∀ x, x < n → o' x = o0 x) → (fl' = true → total o' n < total o0 n) → (fl' = false → ∀ x, x < n → o' (p x) = o' x) → (fl = true → fl' = true) →
   ∃ r, OrbEnd n a b r ∧ Ev (fun k => impl_orbits.l1 k ls (pm n o') fl' ls (ls.length : Int) (wrap64 ((q : Int) + 1))) r) →
  ∃ r, OrbEnd n a b r ∧ Ev (fun k => impl_orbits.l2 k ls (pm n o) fl ls (ls.length : Int) (q : Int) (pm n p) (n : Int) (i : Int)) r := by
 intro d
 induction d with
 | zero =>
  intro i o o0 fl hi ho h1 h2 h3 h4 hnext
  have e : i = n := by omega
  subst e
  obtain ⟨r, hr, ev⟩ := hnext o fl ho h1 h2 h3 h4 id
  exact ⟨r, hr, Ev.step (fun k => by rw [impl_orbits.l2, if_neg (by omega)]) ev⟩
 | succ d ih =>
  intro i o o0 fl hi ho h1 h2 h3 h4 hnext
  have hin : i < n := by omega
  have hpi := hp.1 i hin
  have ei : rd (pm n o) (i : Int) = (o i : Int) := rd_pm hin
  have ep : rd (pm n p) (i : Int) = (p i : Int) := rd_pm hin
  have eo : rd (pm n o) ((p i : Nat) : Int) = (o (p i) : Int) := rd_pm hpi
  have head : ∀ k, impl_orbits.l2 (k + 1) ls (pm n o) fl ls (ls.length : Int) (q : Int) (pm n p) (n : Int) (i : Int) =
   if o i = o (p i) then impl_orbits.l2 k ls (pm n o) fl ls (ls.length : Int) (q : Int) (pm n p) (n : Int) ((i + 1 : Nat) : Int)
   else impl_orbits.l2 k ls (pm n (up2 o i (p i) (min (o i) (o (p i))))) true ls (ls.length : Int) (q : Int) (pm n p) (n : Int) ((i + 1 : Nat) : Int) := by
   intro k
   rw [impl_orbits.l2, if_pos (by omega), if_pos (by omega), if_pos (by rw [pm_length]; omega), if_pos (by rw [pm_length]; omega), ep, if_pos (by omega), if_pos (by rw [pm_length]; omega), ei, eo, mn_nat, wrap_nat (by omega)]
   have es : ((pm n o).set (i : Int).toNat ((min (o i) (o (p i)) : Nat) : Int)).set ((p i : Nat) : Int).toNat ((min (o i) (o (p i)) : Nat) : Int) = pm n (up2 o i (p i) (min (o i) (o (p i)))) := set2_pm hin hpi
   rw [es]
   have m' : min (o i) (o (p i)) = if o i ≤ o (p i) then o i else o (p i) := Nat.min_def
   rw [m']
   by_cases c : o i = o (p i)
   ·rw [if_pos c, if_pos (by split <;> omega), if_pos (by split <;> omega)]
   ·rw [if_neg c]
    by_cases c2 : o i ≤ o (p i)
    ·rw [if_pos c2, if_pos rfl, if_neg (by omega)]
    ·rw [if_neg c2, if_neg (by omega)]
  by_cases c : o i = o (p i)
  ·obtain ⟨r, hr, ev⟩ := ih (i + 1) o o0 fl (by omega) ho h1 h2 h3 (fun e x hx => by
    by_cases d : x = i
    ·subst d; exact c.symm
    ·exact h4 e x (by omega)) hnext
   exact ⟨r, hr, Ev.step (fun k => by rw [head k, if_pos c]) ev⟩
  ·have ho' := ho.up hin hpi (hc i hin)
   have hlt : total (up2 o i (p i) (min (o i) (o (p i)))) n < total o0 n := by
    have a1 := total_le (o := o0) (o' := o) (n := n) h1
    have m' : min (o i) (o (p i)) = if o i ≤ o (p i) then o i else o (p i) := Nat.min_def
    by_cases c2 : o i ≤ o (p i)
    ·have := total_lt (o := o) (o' := up2 o i (p i) (min (o i) (o (p i)))) (n := n) (fun x _ => up2_le x) hpi (by
      unfold up2; rw [if_pos rfl, m', if_pos c2]; omega)
     omega
    ·have := total_lt (o := o) (o' := up2 o i (p i) (min (o i) (o (p i)))) (n := n) (fun x _ => up2_le x) hin (by
      unfold up2; rw [m', if_neg c2]; split
      ·omega
      ·rw [if_pos rfl]; omega)
     omega
   obtain ⟨r, hr, ev⟩ := ih (i + 1) (up2 o i (p i) (min (o i) (o (p i)))) o0 true (by omega) ho' (fun x hx => Nat.le_trans (up2_le x) (h1 x hx)) (fun e => by cases e) (fun _ => hlt) (fun e => by cases e) (fun o' fl' q1 q2 q3 q4 q5 q6 => hnext o' fl' q1 q2 q3 q4 q5 (fun _ => q6 rfl))
   exact ⟨r, hr, Ev.step (fun k => by rw [head k, if_neg c]) ev⟩

theorem implOrbits_ex {n : Nat} {a b : Nat → Nat} (hn : n ≤ 1000) (h1 : 1 ≤ n) (ha : Bij n a) (hb : Bij n b) : ∃ o, IsOrb n a b o ∧ Ev (fun k => impl_orbits.f k [pm n a, pm n b]) (pm n o) := by
 have loop : ∀ t (o : Nat → Nat), total o n ≤ t → Oks n a b o → ∃ r, OrbEnd n a b r ∧ Ev (fun k => impl_orbits.l0 k [pm n a, pm n b] (pm n o) true) r := by
  intro t
  induction t using Nat.strongRecOn with
  | _ t ih =>
   intro o ht ho
   have r0 : rd_L1 [pm n a, pm n b] ((0 : Nat) : Int) = pm n a := rfl
   have r1 : rd_L1 [pm n a, pm n b] ((1 : Nat) : Int) = pm n b := rfl
   obtain ⟨r, hr, ev⟩ := orbits_pass (a := a) (b := b) hn ha (fun i hi => conn_a hi) 0 [pm n a, pm n b] n 0 o o false (by omega) ho (fun _ _ => Nat.le_refl _) (fun _ _ _ => rfl) (fun e => by cases e) (fun _ x hx => absurd hx (by omega)) (fun o1 f1 ho1 l1 e1 t1 p1 _ => by
    obtain ⟨r, hr, ev⟩ := orbits_pass (a := a) (b := b) hn hb (fun i hi => conn_b hi) 1 [pm n a, pm n b] n 0 o1 o f1 (by omega) ho1 l1 e1 t1 (fun _ x hx => absurd hx (by omega)) (fun o2 f2 ho2 l2 e2 t2 p2 k2 => by
     have w2 : wrap64 (((1 : Nat) : Int) + 1) = 2 := by unfold wrap64; omega
     cases hf2 : f2 with
     | true =>
      have tl := t2 hf2
      obtain ⟨r, hr, ev⟩ := ih (total o2 n) (by omega) o2 (Nat.le_refl _) ho2
      refine ⟨r, hr, Ev.step (fun k => ?_) ev⟩
      rw [w2, impl_orbits.l1, if_neg (by simp)]
     | false =>
      have e2' := e2 hf2
      have f1f : f1 = false := by
       cases hf1 : f1 with
       | false => rfl
       | true => have := k2 hf1; rw [hf2] at this; cases this
      have e1' := e1 f1f
      have inv : IsOrb n a b o2 := ⟨fun x hx => ⟨by
       rw [e2' _ (ha.1 x hx), e2' x hx, ← e1' _ (ha.1 x hx), ← e1' x hx]; exact p1 f1f x hx, p2 hf2 x hx⟩, ho2.le, ho2.conn⟩
      refine ⟨pm n o2, ⟨o2, inv, rfl⟩, ?_⟩
      refine Ev.step (f := fun k => impl_orbits.l0 k [pm n a, pm n b] (pm n o2) false) (fun k => by rw [w2, impl_orbits.l1, if_neg (by simp)]) ?_
      exact Ev.step (f := fun _ => some (pm n o2)) (fun k => by rw [impl_orbits.l0, if_neg (by simp)]) (Ev.now _))
    refine ⟨r, hr, Ev.step (fun k => ?_) ev⟩
    have w1 : wrap64 (((0 : Nat) : Int) + 1) = ((1 : Nat) : Int) := by unfold wrap64; omega
    rw [w1, impl_orbits.l1, if_pos (by simp), if_pos (by omega), if_pos (by simp), r1, pm_length]; rfl)
   refine ⟨r, hr, ?_⟩
   refine Ev.step (f := fun k => impl_orbits.l1 k [pm n a, pm n b] (pm n o) false [pm n a, pm n b] (([pm n a, pm n b] : List (List Int)).length : Int) 0) (fun k => by rw [impl_orbits.l0, if_pos rfl]) ?_
   refine Ev.step (fun k => ?_) ev
   have : (0 : Int) = ((0 : Nat) : Int) := rfl
   rw [this, impl_orbits.l1, if_pos (by simp), if_pos (by omega), if_pos (by simp), r0, pm_length]; rfl
 obtain ⟨r, ⟨o, ho, rfl⟩, ev⟩ := loop (total (fun i => i) n) (fun i => i) (Nat.le_refl _) (Oks.start n a b)
 refine ⟨o, ho, ?_⟩
 unfold impl_orbits.f
 refine Ev.pos (by simp) ?_
 have e : ((rd_L1 [pm n a, pm n b] 0).length : Int) = (n : Int) := by
  show ((pm n a).length : Int) = _; rw [pm_length]
 rw [e]
 exact Ev.bind1 (still_ev hn) ev

def up3 (o : Nat → Nat) (i j k v : Nat) (x : Nat) : Nat := if k = x then v else if j = x then v else if i = x then v else o x

theorem set3_pm {n : Nat} {o : Nat → Nat} {i j k v : Nat} (hi : i < n) (hj : j < n) (hk : k < n) : (((pm n o).set i (v : Int)).set j (v : Int)).set k (v : Int) = pm n (up3 o i j k v) := by
 refine eq_pm' (by simp [pm_length]) fun x hx => ?_
 rw [rd_set (by simp [pm_length]; exact hk), rd_set (by simp [pm_length]; exact hj), rd_set (by rw [pm_length]; exact hi), rd_pm hx]
 unfold up3
 by_cases c : k = x
 ·simp [c]
 ·by_cases d : j = x
  ·simp [c, d]
  ·by_cases e : i = x
   ·simp [c, d, e]
   ·simp [c, d, e]

/-- between the least point and the start -/
structure Between (n : Nat) (a b O o : Nat → Nat) : Prop where
 low : ∀ x, x < n → O x ≤ o x
 high : ∀ x, x < n → o x ≤ x

def lowest (o a b : Nat → Nat) (i : Nat) : Nat := min (o i) (min (o (a i)) (o (b i)))

theorem Between.up {n : Nat} {a b O o : Nat → Nat} (ha : Bij n a) (hb : Bij n b) (hO : IsOrb n a b O) (h : Between n a b O o) {i : Nat} (hi : i < n) :
 Between n a b O (up3 o i (a i) (b i) (lowest o a b i)) ∧ (∀ x, up3 o i (a i) (b i) (lowest o a b i) x ≤ o x) ∧ (o i = O i → up3 o i (a i) (b i) (lowest o a b i) (a i) = O (a i) ∧ up3 o i (a i) (b i) (lowest o a b i) (b i) = O (b i)) := by
 have l1 := h.low i hi
 have l2 := h.low _ (ha.1 i hi)
 have l3 := h.low _ (hb.1 i hi)
 have k1 := (hO.keep i hi).1
 have k2 := (hO.keep i hi).2
 have vlow : O i ≤ lowest o a b i := by unfold lowest; omega
 have v1 : lowest o a b i ≤ o i := by unfold lowest; omega
 have v2 : lowest o a b i ≤ o (a i) := by unfold lowest; omega
 have v3 : lowest o a b i ≤ o (b i) := by unfold lowest; omega
 have le : ∀ x, up3 o i (a i) (b i) (lowest o a b i) x ≤ o x := by
  intro x; unfold up3
  split
  ·rename_i e; rw [← e]; exact v3
  ·split
   ·rename_i e; rw [← e]; exact v2
   ·split
    ·rename_i e; rw [← e]; exact v1
    ·exact Nat.le_refl _
 refine ⟨⟨fun x hx => ?_, fun x hx => Nat.le_trans (le x) (h.high x hx)⟩, le, fun e => ?_⟩
 ·unfold up3
  split
  ·rename_i e; rw [← e, k2]; exact vlow
  ·split
   ·rename_i e; rw [← e, k1]; exact vlow
   ·split
    ·rename_i e; rw [← e]; exact vlow
    ·exact h.low x hx
 ·have v : lowest o a b i = O i := by omega
  constructor
  ·unfold up3
   split
   ·rw [v, k1]
   ·rw [if_pos rfl, v, k1]
  ·unfold up3
   rw [if_pos rfl, v, k2]

theorem specOrbits_round {n : Nat} {a b O : Nat → Nat} (hn : n ≤ 1000) (ha : Bij n a) (hb : Bij n b) (hO : IsOrb n a b O) (q : Nat) (r : List Int) (o0 : Nat → Nat) :
 ∀ d i (o : Nat → Nat), i + d = n → Between n a b O o → (∀ x, o x ≤ o0 x) → (∀ x, x < i → o0 x = O x → o (a x) = O (a x) ∧ o (b x) = O (b x)) →
  (∀ o', Between n a b O o' → (∀ x, o' x ≤ o0 x) → (∀ x, x < n → o0 x = O x → o' (a x) = O (a x) ∧ o' (b x) = O (b x)) → Ev (fun k => spec_l1Orbits.l0 k (pm n a) (pm n b) (pm n o') (wrap64 ((q : Int) + 1))) r) →
  Ev (fun k => spec_l1Orbits.l1 k (pm n a) (pm n b) (pm n o) (q : Int) (i : Int)) r := by
 intro d
 induction d with
 | zero =>
  intro i o hi ho h1 h2 hnext
  have e : i = n := by omega
  subst e
  exact Ev.step (fun k => by rw [spec_l1Orbits.l1, if_neg (by rw [pm_length]; omega)]) (hnext o ho h1 h2)
 | succ d ih =>
  intro i o hi ho h1 h2 hnext
  have hin : i < n := by omega
  have hai := ha.1 i hin
  have hbi := hb.1 i hin
  have ei : rd (pm n o) (i : Int) = (o i : Int) := rd_pm hin
  have ea : rd (pm n a) (i : Int) = (a i : Int) := rd_pm hin
  have eb : rd (pm n b) (i : Int) = (b i : Int) := rd_pm hin
  have eoa : rd (pm n o) ((a i : Nat) : Int) = (o (a i) : Int) := rd_pm hai
  have eob : rd (pm n o) ((b i : Nat) : Int) = (o (b i) : Int) := rd_pm hbi
  obtain ⟨u1, u2, u3⟩ := ho.up ha hb hO hin
  have es : (((pm n o).set (i : Int).toNat ((lowest o a b i : Nat) : Int)).set ((a i : Nat) : Int).toNat ((lowest o a b i : Nat) : Int)).set ((b i : Nat) : Int).toNat ((lowest o a b i : Nat) : Int) = pm n (up3 o i (a i) (b i) (lowest o a b i)) := set3_pm hin hai hbi
  refine Ev.step (f := fun k => spec_l1Orbits.l1 k (pm n a) (pm n b) (pm n (up3 o i (a i) (b i) (lowest o a b i))) (q : Int) ((i + 1 : Nat) : Int)) (fun k => by
   rw [spec_l1Orbits.l1, if_pos (by rw [pm_length]; omega), if_pos (by omega), if_pos (by rw [pm_length]; omega), ea, if_pos (by omega), if_pos (by rw [pm_length]; omega), if_pos (by rw [pm_length]; omega), eb, if_pos (by omega), if_pos (by rw [pm_length]; omega), ei, eoa, eob, mn_nat, mn_nat, wrap_nat (by omega)]
   have es' := es
   unfold lowest at es' ⊢
   rw [es']) ?_
  refine ih (i + 1) _ (by omega) u1 (fun x => Nat.le_trans (u2 x) (h1 x)) (fun x hx hxo => ?_) hnext
  by_cases e : x = i
  ·subst e
   have := ho.low x hin
   have := h1 x
   exact u3 (by omega)
  ·obtain ⟨p1, p2⟩ := h2 x (by omega) hxo
   have hx' : x < n := by omega
   have q1 := u2 (a x)
   have q2 := u1.low _ (ha.1 x hx')
   have q3 := u2 (b x)
   have q4 := u1.low _ (hb.1 x hx')
   exact ⟨by omega, by omega⟩

/-- how many points tell their least one -/
def right (n : Nat) (O o : Nat → Nat) : Nat := (List.range n).countP fun x => o x == O x

theorem right_full {n : Nat} {O o : Nat → Nat} (h : right n O o = n) : ∀ x, x < n → o x = O x := by
 unfold right at h
 have : (List.range n).countP (fun x => o x == O x) = (List.range n).length := by rw [h, List.length_range]
 rw [List.countP_eq_length] at this
 intro x hx
 simpa using this x (by simpa using hx)

theorem right_grows {n : Nat} {a b O o o' : Nat → Nat} (ha : Bij n a) (hb : Bij n b) (hO : IsOrb n a b O) (h : Between n a b O o) (h' : Between n a b O o') (le : ∀ x, o' x ≤ o x)
 (st : ∀ x, x < n → o x = O x → o' (a x) = O (a x) ∧ o' (b x) = O (b x)) (hlt : right n O o < n) : right n O o < right n O o' := by
 have keep : ∀ x, x < n → o x = O x → o' x = O x := fun x hx e => by
  have := h'.low x hx; have := le x; omega
 -- a point that is not right yet
 have ex : ∃ x, x < n ∧ o x ≠ O x := by
  apply Classical.byContradiction
  intro c
  have : right n O o = n := by
   unfold right
   rw [List.countP_eq_length.2, List.length_range]
   intro x hx
   simp
   apply Classical.byContradiction
   intro d
   exact c ⟨x, by simpa using hx, d⟩
  omega
 obtain ⟨x, hx, hxo⟩ := ex
 have hm := hO.lt hx
 have om : o (O x) = O (O x) := by
  have i := hO.idem hx
  have := h.low _ hm
  have := h.high _ hm
  omega
 -- an edge out of the right ones
 have ex2 : ∃ u, u < n ∧ o u ≠ O u ∧ o' u = O u := by
  apply Classical.byContradiction
  intro c
  have cl : ∀ y, y < n → o y = O y → o (a y) = O (a y) ∧ o (b y) = O (b y) := by
   intro y hy e
   obtain ⟨s1, s2⟩ := st y hy e
   constructor
   ·apply Classical.byContradiction; intro d; exact c ⟨a y, ha.1 y hy, d, s1⟩
   ·apply Classical.byContradiction; intro d; exact c ⟨b y, hb.1 y hy, d, s2⟩
  exact hxo (conn_closed ha hb (fun y => o y = O y) (fun y hy e => (cl y hy e).1) (fun y hy e => (cl y hy e).2) (conn_symm (hO.conn x hx)) om)
 obtain ⟨u, hu, u1, u2⟩ := ex2
 unfold right
 have split : ∀ l : List Nat, (∀ y, y ∈ l → y < n) → l.countP (fun x => o x == O x) ≤ l.countP (fun x => o' x == O x) ∧ (u ∈ l → l.countP (fun x => o x == O x) < l.countP (fun x => o' x == O x)) := by
  intro l
  induction l with
  | nil => intro _; exact ⟨Nat.le_refl _, fun h => by simp at h⟩
  | cons y l ih =>
   intro hl
   obtain ⟨i1, i2⟩ := ih (fun z hz => hl z (by simp [hz]))
   have hy := hl y (by simp)
   rw [List.countP_cons, List.countP_cons]
   have mono : (if (o y == O y) = true then 1 else 0) ≤ (if (o' y == O y) = true then 1 else 0) := by
    by_cases e : o y = O y
    ·have := keep y hy e; simp [e, this]
    ·simp [e]
   refine ⟨by omega, fun hm => ?_⟩
   by_cases e : u = y
   ·subst e
    simp [u1, u2]; omega
   ·have := i2 (by simpa [e] using hm)
    omega
 exact (split (List.range n) (fun y hy => by simpa using hy)).2 (by simpa using hu)

theorem specOrbits_ev {n : Nat} {a b O : Nat → Nat} (hn : n ≤ 1000) (ha : Bij n a) (hb : Bij n b) (hO : IsOrb n a b O) : Ev (fun k => spec_l1Orbits.f k (pm n a) (pm n b)) (pm n O) := by
 have loop : ∀ d q (o : Nat → Nat), q + d = n → Between n a b O o → q ≤ right n O o → Ev (fun k => spec_l1Orbits.l0 k (pm n a) (pm n b) (pm n o) (q : Int)) (pm n O) := by
  intro d
  induction d with
  | zero =>
   intro q o hq ho hr
   have e : pm n o = pm n O := by
    rw [pm_ext]
    have : right n O o ≤ n := by
     unfold right
     have := List.countP_le_length (p := fun x => o x == O x) (l := List.range n)
     simpa using this
    exact right_full (by omega)
   rw [e]
   exact Ev.step (f := fun _ => some (pm n O)) (fun k => by rw [spec_l1Orbits.l0, if_neg (by rw [pm_length]; omega)]) (Ev.now _)
  | succ d ih =>
   intro q o hq ho hr
   refine Ev.step (f := fun k => spec_l1Orbits.l1 k (pm n a) (pm n b) (pm n o) (q : Int) ((0 : Nat) : Int)) (fun k => by
    rw [spec_l1Orbits.l0, if_pos (by rw [pm_length]; omega)]; rfl) ?_
   refine specOrbits_round hn ha hb hO q (pm n O) o n 0 o (by omega) ho (fun _ => Nat.le_refl _) (fun x hx => absurd hx (by omega)) (fun o' h1 h2 h3 => ?_)
   rw [wrap_nat (by omega)]
   refine ih (q + 1) o' (by omega) h1 ?_
   by_cases c : right n O o < n
   ·have := right_grows ha hb hO ho h1 h2 h3 c
    omega
   ·have le : right n O o ≤ n := by
     unfold right
     have := List.countP_le_length (p := fun x => o x == O x) (l := List.range n)
     simpa using this
    have full := right_full (n := n) (O := O) (o := o) (by omega)
    have : right n O o' = n := by
     unfold right
     rw [List.countP_eq_length.2, List.length_range]
     intro x hx
     have hx' : x < n := by simpa using hx
     have := full x hx'
     have := h1.low x hx'
     have := h2 x
     simp; omega
    omega
 unfold spec_l1Orbits.f
 rw [pm_length]
 refine Ev.bind1 (l1Same_ev hn) ?_
 exact loop n 0 (fun i => i) (by omega) ⟨fun x hx => hO.le x hx, fun _ _ => Nat.le_refl _⟩ (Nat.zero_le _)

theorem xor_i64_nat (a b : Nat) (ha : a < 9223372036854775808) (hb : b < 9223372036854775808) : Go.bits .xor .i64 (a : Int) (b : Int) = ((a ^^^ b : Nat) : Int) := by
 have hx : a ^^^ b < 2 ^ 63 := Nat.xor_lt_two_pow (by omega) (by omega)
 have h1 : (BitVec.ofInt 64 (a : Int)).toNat = a := by
  rw [BitVec.ofInt_natCast, BitVec.toNat_ofNat]; exact Nat.mod_eq_of_lt (by omega)
 have h2 : (BitVec.ofInt 64 (b : Int)).toNat = b := by
  rw [BitVec.ofInt_natCast, BitVec.toNat_ofNat]; exact Nat.mod_eq_of_lt (by omega)
 show IntKind.i64.wrap ((BitVec.ofInt 64 (a : Int) ^^^ BitVec.ofInt 64 (b : Int)).toNat : Int) = _
 rw [BitVec.toNat_xor, h1, h2]
 simp [IntKind.wrap, IntKind.bits, IntKind.signed]
 omega

theorem xor_i64_pos {a b : Int} (h1 : 0 ≤ a) (h2 : a < 9223372036854775808) (h3 : 0 ≤ b) (h4 : b < 9223372036854775808) : 0 ≤ Go.bits .xor .i64 a b := by
 obtain ⟨m, rfl⟩ : ∃ m : Nat, a = m := ⟨a.toNat, by omega⟩
 obtain ⟨k, rfl⟩ : ∃ k : Nat, b = k := ⟨b.toNat, by omega⟩
 rw [xor_i64_nat _ _ (by omega) (by omega)]
 omega

/-- a code's bytes -/
def Bytes (s : List Int) : Prop := s.length ≤ 2000 ∧ ∀ x, x ∈ s → 0 ≤ x ∧ x ≤ 255

theorem Bytes.rd {s : List Int} (h : Bytes s) (i : Int) : 0 ≤ rd s i ∧ rd s i ≤ 255 := by
 unfold Go.Proofs.YtjnbbnaidjodlaaW.PrintWords.rd
 rw [List.getD_eq_getElem?_getD]
 cases e : s[i.toNat]? with
 | none => simp
 | some x => exact h.2 x (List.mem_of_getElem? e)

theorem tmod_in {a n : Int} (ha : 0 ≤ a) (hn : 1 ≤ n) : 0 ≤ Int.tmod a n ∧ Int.tmod a n < n := by
 rw [Int.tmod_eq_emod_of_nonneg ha]
 exact ⟨Int.emod_nonneg _ (by omega), Int.emod_lt_of_pos _ (by omega)⟩

theorem pick_ev {s : List Int} (hs : Bytes s) {p n : Int} (h0 : 0 ≤ p) (h1 : p ≤ 1000000000) (hn : n ≤ 1000000000) :
 ∃ v, Ev (fun k => spec_l6Rd_pick.f k s p n) (v, p + 1) ∧ 0 ≤ v ∧ v ≤ 1000000000 ∧ (1 ≤ n → v < n) := by
 have w1 : wrap64 (p + 1) = p + 1 := wrap_in (by omega) (by omega)
 have w2 : wrap64 (p + 1 - 1) = p := by rw [wrap_in (by omega) (by omega)]; omega
 unfold spec_l6Rd_pick.f
 by_cases c : n < 1
 ·refine ⟨0, Ev.pos c ?_, by omega, by omega, fun e => by omega⟩
  rw [w1]
  exact Ev.step (f := fun _ => some (0, p + 1)) (fun k => by rw [spec_l6Rd_pick.j0, if_pos rfl]) (Ev.now _)
 ·by_cases d : s.length = 0
  ·refine ⟨0, Ev.neg c ?_, by omega, by omega, fun e => by omega⟩
   rw [w1]
   have e : ((s.length : Int) == 0) = true := by simp [d]
   rw [e]
   exact Ev.step (f := fun _ => some (0, p + 1)) (fun k => by rw [spec_l6Rd_pick.j0, if_pos rfl]) (Ev.now _)
  ·have e : ((s.length : Int) == 0) = false := by
    exact beq_eq_false_iff_ne.mpr (by omega)
   have hl := hs.1
   by_cases f : p < s.length
   ·have r := hs.rd p
    have t := tmod_in (a := rd s p) (n := n) r.1 (by omega)
    refine ⟨Int.tmod (rd s p) n, Ev.neg c ?_, t.1, by omega, fun _ => t.2⟩
    rw [w1, e]
    refine Ev.step (f := fun _ => some (Int.tmod (rd s p) n, p + 1)) (fun k => by
     rw [spec_l6Rd_pick.j0, w2, if_neg (by simp), if_pos f, if_pos h0, if_neg (by omega), wrap_in (by omega) (by omega)]) (Ev.now _)
   ·have m1 := tmod_in (a := p) (n := (s.length : Int)) h0 (by omega)
    have w3 : wrap64 (p * 7) = p * 7 := wrap_in (by omega) (by omega)
    have w4 : wrap64 (p * 7 + 3) = p * 7 + 3 := wrap_in (by omega) (by omega)
    have m2 := tmod_in (a := p * 7 + 3) (n := (s.length : Int)) (by omega) (by omega)
    obtain ⟨A, hA⟩ : ∃ A, A = rd s (Int.tmod p (s.length : Int)) := ⟨_, rfl⟩
    obtain ⟨B, hB⟩ : ∃ B, B = rd s (Int.tmod (p * 7 + 3) (s.length : Int)) := ⟨_, rfl⟩
    have a1 : 0 ≤ A ∧ A ≤ 255 := by rw [hA]; exact hs.rd _
    have b1 : 0 ≤ B ∧ B ≤ 255 := by rw [hB]; exact hs.rd _
    obtain ⟨D, hD⟩ : ∃ D, D = Int.tdiv p (s.length : Int) := ⟨_, rfl⟩
    have d1 : 0 ≤ D ∧ D ≤ p := by
     rw [hD, Int.tdiv_eq_ediv_of_nonneg h0]
     exact ⟨Int.ediv_nonneg h0 (by omega), Int.ediv_le_self _ h0⟩
    obtain ⟨X, hX⟩ : ∃ X, X = A * 131 + B * 1117 + p * 29 + D * 53 := ⟨_, rfl⟩
    have x1 : 0 ≤ X ∧ X ≤ 100000000000 := by omega
    have y1 : 0 ≤ Int.tdiv X 64 ∧ Int.tdiv X 64 ≤ X := by
     rw [Int.tdiv_eq_ediv_of_nonneg x1.1]; omega
    have z := xor_i64_pos (a := X) (b := Int.tdiv X 64) x1.1 (by omega) y1.1 (by omega)
    have t := tmod_in (n := n) z (by omega)
    refine ⟨Int.tmod (Go.bits .xor .i64 X (Int.tdiv X 64)) n, Ev.neg c ?_, t.1, by omega, fun _ => t.2⟩
    rw [w1, e]
    refine Ev.step (f := fun _ => some (Int.tmod (Go.bits .xor .i64 X (Int.tdiv X 64)) n, p + 1)) (fun k => by
     rw [spec_l6Rd_pick.j0, w2, if_neg (by simp), if_neg f, if_neg (by omega), if_pos m1.1, if_pos m1.2, w3, w4, if_pos m2.1, if_pos m2.2, if_neg (by omega), ← hA, ← hB, ← hD]
     rw [wrap_in (n := A) (by omega) (by omega), wrap_in (n := B) (by omega) (by omega), wrap_in (n := A * 131) (by omega) (by omega), wrap_in (n := B * 1117) (by omega) (by omega), wrap_in (n := A * 131 + B * 1117) (by omega) (by omega), wrap_in (n := p * 29) (by omega) (by omega), wrap_in (n := A * 131 + B * 1117 + p * 29) (by omega) (by omega), wrap_in (n := D) (by omega) (by omega), wrap_in (n := D * 53) (by omega) (by omega), wrap_in (n := A * 131 + B * 1117 + p * 29 + D * 53) (by omega) (by omega), ← hX, wrap_in (n := Int.tdiv X 64) (by omega) (by omega)]) (Ev.now _)

theorem open_ev {l : List Int} (hw : ∀ x ∈ l, (Lit.int .u8 x).wf = true) : ∃ s, Bytes s ∧ Ev (fun _ => spec_l6Open.f l) (s, 0) := by
 have hb : ∀ x, x ∈ l → 0 ≤ x ∧ x ≤ 255 := by
  intro x hx
  have := hw x hx
  simp [Lit.wf, IntKind.min, IntKind.max, IntKind.signed, IntKind.bits] at this
  omega
 unfold spec_l6Open.f
 by_cases c : (l.length : Int) > 2000
 ·refine ⟨l.take 2000, ⟨by simp; omega, fun x hx => hb x (List.mem_of_mem_take hx)⟩, Ev.pos c (Ev.pos (by omega) (Ev.now _))⟩
 ·exact ⟨l, ⟨by omega, hb⟩, Ev.neg c (Ev.now _)⟩

/-- f with the point n put into the cycle ahead of k -/
def ins (n k : Nat) (f : Nat → Nat) (x : Nat) : Nat := if x = n then f k else if x = k then n else f x

theorem ins_bij {n k : Nat} {f : Nat → Nat} (hf : Bij n f) (hk : k < n) : Bij (n + 1) (ins n k f) := by
 constructor
 ·intro i hi
  unfold ins
  split
  ·have := hf.1 k hk; omega
  ·split
   ·omega
   ·have := hf.1 i (by omega); omega
 ·intro i j hi hj e
  unfold ins at e
  have bi : i ≠ n → f i < n := fun h => hf.1 i (by omega)
  have bj : j ≠ n → f j < n := fun h => hf.1 j (by omega)
  have bk := hf.1 k hk
  by_cases a1 : i = n <;> by_cases a2 : j = n
  ·omega
  ·rw [if_pos a1, if_neg a2] at e
   by_cases a3 : j = k
   ·rw [if_pos a3] at e; omega
   ·rw [if_neg a3] at e; exact absurd (hf.2 k j hk (by omega) e) (fun h => a3 h.symm)
  ·rw [if_neg a1, if_pos a2] at e
   by_cases a3 : i = k
   ·rw [if_pos a3] at e; omega
   ·rw [if_neg a3] at e; exact absurd (hf.2 i k (by omega) hk e) a3
  ·rw [if_neg a1, if_neg a2] at e
   by_cases a3 : i = k <;> by_cases a4 : j = k
   ·omega
   ·rw [if_pos a3, if_neg a4] at e; have := bj a2; omega
   ·rw [if_neg a3, if_pos a4] at e; have := bi a1; omega
   ·rw [if_neg a3, if_neg a4] at e; exact hf.2 i j (by omega) (by omega) e

theorem add_bij {n : Nat} {f : Nat → Nat} (hf : Bij n f) : Bij (n + 1) (fun x => if x = n then n else f x) := by
 constructor
 ·intro i hi
  show (if i = n then n else f i) < n + 1
  split
  ·omega
  ·have := hf.1 i (by omega); omega
 ·intro i j hi hj e
  have e' : (if i = n then n else f i) = (if j = n then n else f j) := e
  by_cases a1 : i = n <;> by_cases a2 : j = n
  ·omega
  ·rw [if_pos a1, if_neg a2] at e'; have := hf.1 j (by omega); omega
  ·rw [if_neg a1, if_pos a2] at e'; have := hf.1 i (by omega); omega
  ·rw [if_neg a1, if_neg a2] at e'; exact hf.2 i j (by omega) (by omega) e'

theorem perm_ev {s : List Int} (hs : Bytes s) {p : Int} (h0 : 0 ≤ p) (h1 : p ≤ 1000000) {n : Nat} (hn : n ≤ 1000) : ∃ f, Bij n f ∧ Ev (fun k => spec_l91Perm.f k s p (n : Int)) (pm n f, p + n) := by
 have loop : ∀ d i (f : Nat → Nat), i + d = n → Bij i f → ∃ g, Bij n g ∧ Ev (fun k => spec_l91Perm.l0 k (n : Int) (pm i f) (i : Int) s (p + i)) (pm n g, p + n) := by
  intro d
  induction d with
  | zero =>
   intro i f hi hf
   have e : i = n := by omega
   subst e
   exact ⟨f, hf, Ev.step (f := fun _ => some (pm i f, p + i)) (fun k => by rw [spec_l91Perm.l0, if_neg (by omega)]) (Ev.now _)⟩
  | succ d ih =>
   intro i f hi hf
   obtain ⟨v, ev, v0, _, v1⟩ := pick_ev hs (p := p + i) (n := (i : Int) + 1) (by omega) (by omega) (by omega)
   have v2 := v1 (by omega)
   obtain ⟨k, rfl⟩ : ∃ k : Nat, v = k := ⟨v.toNat, by omega⟩
   have ep : p + (i : Int) + 1 = p + ((i + 1 : Nat) : Int) := by omega
   by_cases c : k = i
   ·subst c
    obtain ⟨g, hg, eg⟩ := ih (k + 1) _ (by omega) (add_bij hf)
    refine ⟨g, hg, ?_⟩
    refine Ev.step (fun q => by rw [spec_l91Perm.l0]) (Ev.pos (by omega) ?_)
    rw [wrap_nat (by omega)]
    refine Ev.bind1 ev (Ev.pos rfl (Ev.pos (by rw [pm_length]; omega) ?_))
    have es : pm k f ++ [(k : Int)] = pm (k + 1) (fun x => if x = k then k else f x) := by
     unfold pm
     rw [List.range_succ, List.map_append]
     congr 1
     ·apply List.map_congr_left
      intro x hx
      have : x < k := by simpa using hx
      show (f x : Int) = ((if x = k then k else f x : Nat) : Int)
      rw [if_neg (by omega)]
     ·simp
    rw [es]
    show Ev (fun q => spec_l91Perm.l0 q _ _ _ s (p + (k : Int) + 1)) _
    rw [ep]
    exact eg
   ·have hk : k < i := by omega
    obtain ⟨g, hg, eg⟩ := ih (i + 1) _ (by omega) (ins_bij hf hk)
    refine ⟨g, hg, ?_⟩
    refine Ev.step (fun q => by rw [spec_l91Perm.l0]) (Ev.pos (by omega) ?_)
    rw [wrap_nat (by omega)]
    refine Ev.bind1 ev (Ev.neg (by show ¬ (k : Int) = i; omega) (Ev.pos (by show 0 ≤ (k : Int); omega) (Ev.pos (by rw [pm_length]; show (k : Int) < i; omega) (Ev.pos (by rw [pm_length]; omega) ?_))))
    refine Ev.some1 (Ev.pos (by simp [pm_length]; omega) ?_)
    have es : (pm i f ++ [rd (pm i f) (k : Int)]).set ((k : Int)).toNat (i : Int) = pm (i + 1) (ins i k f) := by
     refine eq_pm' (by simp [pm_length]) fun x hx => ?_
     rw [Int.toNat_natCast, rd_set (by simp [pm_length]; omega), rd_pm hk]
     unfold ins
     by_cases a1 : k = x
     ·rw [if_pos a1, if_neg (by omega), if_pos a1.symm]
     ·rw [if_neg a1]
      by_cases a2 : x = i
      ·rw [if_pos a2, a2]
       have : i < (pm i f ++ [(f k : Int)]).length := by simp [pm_length]
       rw [rd_get this]
       simp [pm_length]
      ·rw [if_neg a2, if_neg (fun e => a1 e.symm)]
       have hx' : x < i := by omega
       have : x < (pm i f ++ [(f k : Int)]).length := by simp [pm_length]; omega
       rw [rd_get this, List.getElem_append_left (by rw [pm_length]; exact hx'), ← rd_get (by rw [pm_length]; exact hx'), rd_pm hx']
    show Ev (fun q => spec_l91Perm.l0 q _ ((pm i f ++ [rd (pm i f) (k : Int)]).set ((k : Int)).toNat (i : Int)) _ s (p + (i : Int) + 1)) _
    rw [es, ep]
    exact eg
 obtain ⟨g, hg, eg⟩ := loop n 0 (fun x => x) (by omega) (id_bij 0)
 refine ⟨g, hg, ?_⟩
 unfold spec_l91Perm.f
 have : p + ((0 : Nat) : Int) = p := by omega
 rw [this] at eg
 exact eg

theorem mx_nat (a b : Nat) : mx (a : Int) (b : Int) = ((max a b : Nat) : Int) := by
 unfold mx
 rcases Nat.lt_or_ge a b with c | c
 ·rw [if_pos (by omega), Nat.max_def, if_pos (by omega)]
 ·rw [if_neg (by omega), Nat.max_def]; split <;> omega

theorem max_ev {n : Nat} {o : Nat → Nat} (h1 : 1 ≤ n) (hn : n ≤ 1000) : ∃ m : Nat, Ev (fun k => slices_Max_int_int.f k (pm n o)) (m : Int) ∧ (m = 0 ↔ ∀ x, x < n → o x = 0) := by
 have loop : ∀ d i (m : Nat), i + d = n → (m = 0 ↔ ∀ x, x < i → o x = 0) → ∃ m' : Nat, Ev (fun k => slices_Max_int_int.l0 k (pm n o) (m : Int) (i : Int)) (m' : Int) ∧ (m' = 0 ↔ ∀ x, x < n → o x = 0) := by
  intro d
  induction d with
  | zero =>
   intro i m hi hm
   have e : i = n := by omega
   subst e
   exact ⟨m, Ev.step (f := fun _ => some (m : Int)) (fun k => by rw [slices_Max_int_int.l0, if_neg (by rw [pm_length]; omega)]) (Ev.now _), hm⟩
  | succ d ih =>
   intro i m hi hm
   have hin : i < n := by omega
   obtain ⟨m', ev, h⟩ := ih (i + 1) (max m (o i)) (by omega) (by
    constructor
    ·intro e x hx
     have e1 : m = 0 := by omega
     by_cases c : x = i
     ·subst c; omega
     ·exact hm.1 e1 x (by omega)
    ·intro e
     have := hm.2 fun x hx => e x (by omega)
     have := e i (by omega)
     omega)
   refine ⟨m', Ev.step (f := fun k => slices_Max_int_int.l0 k (pm n o) ((max m (o i) : Nat) : Int) ((i + 1 : Nat) : Int)) (fun k => by
    rw [slices_Max_int_int.l0, if_pos (by rw [pm_length]; omega), if_pos (by omega), rd_pm hin, mx_nat, wrap_nat (by omega)]) ev, h⟩
 obtain ⟨m', ev, h⟩ := loop (n - 1) 1 (o 0) (by omega) (by
  constructor
  ·intro e x hx
   have : x = 0 := by omega
   subst this; exact e
  ·intro e; exact e 0 (by omega))
 refine ⟨m', ?_, h⟩
 unfold slices_Max_int_int.f
 refine Ev.neg (by rw [pm_length]; omega) (Ev.pos (by rw [pm_length]; omega) ?_)
 have e0 : rd (pm n o) 0 = (o 0 : Int) := rd_pm (i := 0) (by omega)
 rw [e0]
 exact ev

/-- two lists that are a map: the second has no fixed point and is its own way back, and they lead everywhere -/
def IsMp (n : Nat) (a b : List Int) (f g : Nat → Nat) : Prop := IsPerm n a f ∧ IsPerm n b g ∧ (∀ i, i < n → g i ≠ i ∧ g (g i) = i) ∧ ∃ o, IsOrb n f g o ∧ ∀ x, x < n → o x = 0

def mapAt (a b : List Int) : Prop := ∃ n f g, IsMp n a b f g

noncomputable def mvalid (a b : List Int) : Bool := @decide (mapAt a b) (Classical.propDecidable _)

theorem mvalid_iff (a b : List Int) : mvalid a b = true ↔ mapAt a b := by unfold mvalid; simp

theorem mvalid_no {a b : List Int} (h : ¬ mapAt a b) : mvalid a b = false := by unfold mvalid; simp [h]

theorem mvalid_yes {a b : List Int} (h : mapAt a b) : mvalid a b = true := by unfold mvalid; simp [h]

theorem mapAt_both {a b : List Int} (h : mapAt a b) : both a b = true := by
 obtain ⟨n, f, g, hf, hg, _⟩ := h
 exact (both_iff a b).2 ⟨n, f, g, hf, hg⟩

theorem isPerm_same {n m : Nat} {a : List Int} {f g : Nat → Nat} (h : IsPerm n a f) (k : IsPerm m a g) : m = n ∧ ∀ i, i < n → g i = f i := by
 have e : m = n := by rw [← isPerm_len h, isPerm_len k]
 subst e
 exact ⟨rfl, fun i hi => by rw [← isPerm_rd h i hi, isPerm_rd k i hi]⟩

theorem isOrb_congr {n : Nat} {f g f' g' o : Nat → Nat} (ho : IsOrb n f g o) (ef : ∀ i, i < n → f' i = f i) (eg : ∀ i, i < n → g' i = g i) : IsOrb n f' g' o := by
 refine ⟨fun x hx => ?_, ho.le, fun x hx => ?_⟩
 ·rw [ef x hx, eg x hx]; exact ho.keep x hx
 ·intro cc hcc
  exact ho.conn x hx cc (fun y hy => by rw [← ef y hy, ← eg y hy]; exact hcc y hy)

/-- what it takes, when both are permutations -/
theorem mapAt_iff {n : Nat} {a b : List Int} {f g : Nat → Nat} (hf : IsPerm n a f) (hg : IsPerm n b g) {o : Nat → Nat} (ho : IsOrb n f g o) : mapAt a b ↔ (∀ i, i < n → g i ≠ i ∧ g (g i) = i) ∧ ∀ x, x < n → o x = 0 := by
 constructor
 ·rintro ⟨m, f', g', hf', hg', h1, o', ho', h2⟩
  obtain ⟨rfl, ef⟩ := isPerm_same hf hf'
  obtain ⟨_, eg⟩ := isPerm_same hg hg'
  refine ⟨fun i hi => ?_, fun x hx => ?_⟩
  ·have := h1 i hi
   rw [eg i hi, eg (g i) (hg.2.2.1.1 i hi)] at this
   exact this
  ·rw [← (isOrb_congr ho' (fun i hi => (ef i hi).symm) (fun i hi => (eg i hi).symm)).unique ho x hx]; exact h2 x hx
 ·rintro ⟨h1, h2⟩
  exact ⟨n, f, g, hf, hg, h1, o, ho, h2⟩

theorem implMapValid_ev (a b : List Int) : Ev (fun k => impl_MapValid.f k a b) (mvalid a b) := by
 unfold impl_MapValid.f
 have bad : ¬ mapAt a b → Ev (fun k => impl_MapValid.j0 k true a b) (mvalid a b) := by
  intro h
  rw [mvalid_no h]
  exact Ev.step (f := fun _ => some false) (fun k => by rw [impl_MapValid.j0, if_pos rfl]) (Ev.now _)
 by_cases c : both a b = true
 ·obtain ⟨n, f, g, hf, hg⟩ := (both_iff a b).1 c
  have h12 := hf.2.1
  have lf := isPerm_len hf
  have lg := isPerm_len hg
  obtain ⟨o, ho, ev⟩ := implOrbits_ex (by omega) hf.1 hf.2.2.1 hg.2.2.1
  have iff := mapAt_iff hf hg ho
  have e : ((a.length : Int) != (b.length : Int)) = false := by rw [lf, lg]; simp
  refine Ev.bind1 (implValid_ev a) (Ev.pos (isPerm_valid hf) (Ev.bind1 (implValid_ev b) (Ev.pos (isPerm_valid hg) ?_)))
  rw [e]
  refine Ev.step (f := fun k => impl_MapValid.l0 k b (n : Int) ((0 : Nat) : Int) a b) (fun k => by rw [impl_MapValid.j0, if_neg (by simp), lg]; rfl) ?_
  have loop : ∀ d i, i + d = n → (∀ j, j < i → g j ≠ j ∧ g (g j) = j) → Ev (fun k => impl_MapValid.l0 k b (n : Int) (i : Int) a b) (mvalid a b) := by
   intro d
   induction d with
   | zero =>
    intro i hi hall
    have ei : i = n := by omega
    subst ei
    obtain ⟨m, em, hm⟩ := max_ev (o := o) hf.1 (by omega)
    refine Ev.step (fun k => by rw [impl_MapValid.l0]) (Ev.neg (by omega) ?_)
    have ev' : Ev (fun k => impl_orbits.f k [a, b]) (pm i o) := by rw [hf.2.2.2, hg.2.2.2]; exact ev
    refine Ev.bind1 ev' (Ev.bind1 em ?_)
    have : ((m : Int) == 0) = mvalid a b := by
     by_cases z : m = 0
     ·rw [mvalid_yes (iff.2 ⟨hall, hm.1 z⟩), z]; rfl
     ·rw [mvalid_no (fun h => z (hm.2 (iff.1 h).2))]
      exact beq_eq_false_iff_ne.mpr (by omega)
    rw [this]
    exact Ev.now _
   | succ d ih =>
    intro i hi hall
    have hin : i < n := by omega
    have g1 := hg.2.2.1.1 i hin
    have b1 : rd b (i : Int) = (g i : Int) := by rw [hg.2.2.2, rd_pm hin]
    have b2 : rd b (g i : Int) = (g (g i) : Int) := by rw [hg.2.2.2, rd_pm g1]
    by_cases z1 : g i = i
    ·rw [mvalid_no (fun h => ((iff.1 h).1 i hin).1 z1)]
     exact Ev.step (f := fun _ => some false) (fun k => by rw [impl_MapValid.l0, if_pos (by omega), if_pos (by omega), if_pos (by omega), if_pos (by rw [b1, z1])]) (Ev.now _)
    ·by_cases z2 : g (g i) = i
     ·refine Ev.step (f := fun k => impl_MapValid.l0 k b (n : Int) ((i + 1 : Nat) : Int) a b) (fun k => by
       rw [impl_MapValid.l0, if_pos (by omega), if_pos (by omega), if_pos (by omega), if_neg (by rw [b1]; omega), b1, if_pos (by omega), if_pos (by omega), if_pos (by rw [b2, z2]), wrap_nat (by omega)]) (ih (i + 1) (by omega) ?_)
      intro j hj
      by_cases e : j = i
      ·subst e; exact ⟨z1, z2⟩
      ·exact hall j (by omega)
     ·rw [mvalid_no (fun h => z2 ((iff.1 h).1 i hin).2)]
      exact Ev.step (f := fun _ => some false) (fun k => by rw [impl_MapValid.l0, if_pos (by omega), if_pos (by omega), if_pos (by omega), if_neg (by rw [b1]; omega), b1, if_pos (by omega), if_pos (by omega), if_neg (by rw [b2]; omega)]) (Ev.now _)
  exact loop n 0 (by omega) (fun j hj => by omega)
 ·have no : ¬ mapAt a b := fun h => c (mapAt_both h)
  refine Ev.bind1 (implValid_ev a) ?_
  by_cases c1 : impl_PermValid.validB a = true
  ·refine Ev.pos c1 (Ev.bind1 (implValid_ev b) ?_)
   by_cases c2 : impl_PermValid.validB b = true
   ·refine Ev.pos c2 ?_
    have : ((a.length : Int) != (b.length : Int)) = true := by
     simp only [bne_iff_ne, ne_eq]
     intro e
     apply c
     unfold both
     have : a.length = b.length := by omega
     simp [c1, c2, this]
    rw [this]; exact bad no
   ·exact Ev.neg c2 (bad no)
  ·exact Ev.neg c1 (bad no)

theorem specMapValid_ev {a b : List Int} (ha : a.length ≤ 4294967296) (hb : b.length ≤ 4294967296) : Ev (fun k => spec_MapValid.f k a b) (mvalid a b) := by
 unfold spec_MapValid.f
 refine Ev.bind1 (l1Both_ev ha hb) ?_
 by_cases c : both a b = true
 ·obtain ⟨n, f, g, hf, hg⟩ := (both_iff a b).1 c
  have h12 := hf.2.1
  have lf := isPerm_len hf
  have lg := isPerm_len hg
  obtain ⟨o, ho, _⟩ := implOrbits_ex (by omega) hf.1 hf.2.2.1 hg.2.2.1
  have ev := specOrbits_ev (by omega) hf.2.2.1 hg.2.2.1 ho
  have iff := mapAt_iff hf hg ho
  refine Ev.pos c ?_
  have last : (∀ j, j < n → g j ≠ j ∧ g (g j) = j) → ∀ d i, i + d = n → (∀ j, j < i → o j = 0) → Ev (fun k => spec_MapValid.l1 k (pm n o) (i : Int)) (mvalid a b) := by
   intro hall d
   induction d with
   | zero =>
    intro i hi h0
    have ei : i = n := by omega
    subst ei
    rw [mvalid_yes (iff.2 ⟨hall, h0⟩)]
    exact Ev.step (f := fun _ => some true) (fun k => by rw [spec_MapValid.l1, if_neg (by rw [pm_length]; omega)]) (Ev.now _)
   | succ d ih =>
    intro i hi h0
    have hin : i < n := by omega
    by_cases z : o i = 0
    ·refine Ev.step (f := fun k => spec_MapValid.l1 k (pm n o) ((i + 1 : Nat) : Int)) (fun k => by
      rw [spec_MapValid.l1, if_pos (by rw [pm_length]; omega), if_pos (by omega), if_pos (by rw [rd_pm hin, z]; rfl), wrap_nat (by omega)]) (ih (i + 1) (by omega) ?_)
     intro j hj
     by_cases e : j = i
     ·subst e; exact z
     ·exact h0 j (by omega)
    ·rw [mvalid_no (fun h => z ((iff.1 h).2 i hin))]
     exact Ev.step (f := fun _ => some false) (fun k => by rw [spec_MapValid.l1, if_pos (by rw [pm_length]; omega), if_pos (by omega), if_neg (by rw [rd_pm hin]; omega)]) (Ev.now _)
  have loop : ∀ d i, i + d = n → (∀ j, j < i → g j ≠ j ∧ g (g j) = j) → Ev (fun k => spec_MapValid.l0 k (i : Int) a b) (mvalid a b) := by
   intro d
   induction d with
   | zero =>
    intro i hi hall
    have ei : i = n := by omega
    subst ei
    refine Ev.step (fun k => by rw [spec_MapValid.l0]) (Ev.neg (by omega) ?_)
    have ev' : Ev (fun k => spec_l1Orbits.f k a b) (pm i o) := by rw [hf.2.2.2, hg.2.2.2]; exact ev
    exact Ev.bind1 ev' (last hall i 0 (by omega) (fun j hj => by omega))
   | succ d ih =>
    intro i hi hall
    have hin : i < n := by omega
    have g1 := hg.2.2.1.1 i hin
    have b1 : rd b (i : Int) = (g i : Int) := by rw [hg.2.2.2, rd_pm hin]
    have b2 : rd b (g i : Int) = (g (g i) : Int) := by rw [hg.2.2.2, rd_pm g1]
    by_cases z1 : g i = i
    ·rw [mvalid_no (fun h => ((iff.1 h).1 i hin).1 z1)]
     exact Ev.step (f := fun _ => some false) (fun k => by rw [spec_MapValid.l0, if_pos (by omega), if_pos (by omega), if_pos (by rw [b1, z1])]) (Ev.now _)
    ·by_cases z2 : g (g i) = i
     ·refine Ev.step (f := fun k => spec_MapValid.l0 k ((i + 1 : Nat) : Int) a b) (fun k => by
       rw [spec_MapValid.l0, if_pos (by omega), if_pos (by omega), if_neg (by rw [b1]; omega), b1, if_pos (by omega), if_pos (by omega), if_pos (by rw [b2, z2]), wrap_nat (by omega)]) (ih (i + 1) (by omega) ?_)
      intro j hj
      by_cases e : j = i
      ·subst e; exact ⟨z1, z2⟩
      ·exact hall j (by omega)
     ·rw [mvalid_no (fun h => z2 ((iff.1 h).1 i hin).2)]
      exact Ev.step (f := fun _ => some false) (fun k => by rw [spec_MapValid.l0, if_pos (by omega), if_pos (by omega), if_neg (by rw [b1]; omega), b1, if_pos (by omega), if_pos (by omega), if_neg (by rw [b2]; omega)]) (Ev.now _)
  exact loop n 0 (by omega) (fun j hj => by omega)
 ·rw [mvalid_no fun h => c (mapAt_both h)]
  exact Ev.neg c (Ev.now _)

/-- the names so far: a point's place in the order, or -1 -/
def nm (n : Nat) (o : List Nat) : List Int := (List.range n).map fun d => if d ∈ o then ((o.idxOf d : Nat) : Int) else -1

theorem nm_len (n : Nat) (o : List Nat) : (nm n o).length = n := by simp [nm]

theorem nm_rd {n d : Nat} (o : List Nat) (h : d < n) : rd (nm n o) (d : Int) = if d ∈ o then ((o.idxOf d : Nat) : Int) else -1 := by
 rw [rd_get (by rw [nm_len]; exact h)]; simp [nm]

theorem nm_put {n d : Nat} {o : List Nat} (h : d < n) (hd : d ∉ o) : (nm n o).set d (o.length : Int) = nm n (o ++ [d]) := by
 refine List.ext_getElem (by simp [nm_len]) fun i h1 h2 => ?_
 rw [List.getElem_set]
 simp only [nm, List.getElem_map, List.getElem_range]
 have hi : i < n := by simpa [nm_len] using h2
 by_cases c : d = i
 ·subst c
  rw [if_pos rfl, if_pos (by simp), List.idxOf_append, if_neg hd]
  simp
 ·rw [if_neg c]
  by_cases m : i ∈ o
  ·rw [if_pos m, if_pos (by simp [m]), List.idxOf_append, if_pos m]
  ·rw [if_neg m, if_neg (by simp [m]; omega)]

theorem ints_snoc (o : List Nat) (d : Nat) : ints o ++ [(d : Int)] = ints (o ++ [d]) := by simp [ints]

theorem nm_one {n r : Nat} (h : r < n) : (List.replicate n (-1 : Int)).set r 0 = nm n [r] := by
 have e : List.replicate n (-1 : Int) = nm n [] := by
  refine List.ext_getElem (by simp [nm_len]) fun i h1 h2 => ?_
  simp [nm]
 rw [e]
 exact nm_put (o := []) h (by simp)

theorem nm_name {n : Nat} {f g : Nat → Nat} (hf : Bij n f) (hg : Bij n g) {r : Nat} (hr : r < n) (hc : ∀ x, x < n → conn n f g r x) : nm n (bord f g r n) = pm n (name n f g r) := by
 have h := (bord_full hf hg hr hc).2
 unfold nm pm
 refine List.map_congr_left fun x hx => ?_
 rw [if_pos (h x (by simpa using hx))]; rfl

theorem rd_two0 (x y : Int) : rd [x, y] ((0 : Nat) : Int) = x := rfl

theorem rd_two1 (x y : Int) : rd [x, y] ((1 : Nat) : Int) = y := rfl

theorem implNames_one {n : Nat} {a b : List Int} {o : List Nat} {y : List Int} {d : Nat} {i j : Nat} {R : List Int} (hd : d < n) (hn : n ≤ 1000) (ho : o.length ≤ 2000) (hy : y.length = 2) (hj : j < 2) (e : rd y (j : Int) = (d : Int))
 (k : Ev (fun k => impl_namesFrom.l2 k (nm n (put o d)) (ints (put o d)) (i : Int) y 2 ((j + 1 : Nat) : Int) a b) R) : Ev (fun k => impl_namesFrom.l2 k (nm n o) (ints o) (i : Int) y 2 (j : Int) a b) R := by
 refine Ev.step (fun k => by rw [impl_namesFrom.l2]) ?_
 refine Ev.pos (by omega) (Ev.pos (by omega) (Ev.pos (by omega) ?_))
 rw [e]
 refine Ev.pos (by omega) (Ev.pos (by rw [nm_len]; omega) ?_)
 rw [nm_rd o hd, wrap_nat (by omega)]
 by_cases c : d ∈ o
 ·rw [if_pos c]
  have : put o d = o := by unfold put; rw [if_pos c]
  rw [this] at k
  exact Ev.neg (by omega) k
 ·rw [if_neg c]
  have : put o d = o ++ [d] := by unfold put; rw [if_neg c]
  rw [this, ← nm_put hd c, ← ints_snoc] at k
  refine Ev.pos (by omega) (Ev.pos (by rw [ints_len]; omega) ?_)
  rw [ints_len, Int.toNat_natCast]
  exact k

theorem specNames_one {n : Nat} {a b : List Int} {o : List Nat} {y : List Int} {d : Nat} {i j : Nat} {R : List Int} (hd : d < n) (hn : n ≤ 1000) (ho : o.length ≤ 2000) (hy : y.length = 2) (hj : j < 2) (e : rd y (j : Int) = (d : Int))
 (k : Ev (fun k => spec_l2Names.l2 k (nm n (put o d)) (ints (put o d)) (i : Int) y ((j + 1 : Nat) : Int) a b) R) : Ev (fun k => spec_l2Names.l2 k (nm n o) (ints o) (i : Int) y (j : Int) a b) R := by
 refine Ev.step (fun k => by rw [spec_l2Names.l2]) ?_
 refine Ev.pos (by omega) (Ev.pos (by omega) (Ev.pos (by omega) ?_))
 rw [e]
 refine Ev.pos (by omega) (Ev.pos (by rw [nm_len]; omega) ?_)
 rw [nm_rd o hd, wrap_nat (by omega)]
 by_cases c : d ∈ o
 ·rw [if_pos c]
  have : put o d = o := by unfold put; rw [if_pos c]
  rw [this] at k
  exact Ev.neg (by omega) k
 ·rw [if_neg c]
  have : put o d = o ++ [d] := by unfold put; rw [if_neg c]
  rw [this, ← nm_put hd c, ← ints_snoc] at k
  refine Ev.pos (by omega) (Ev.pos (by rw [ints_len]; omega) ?_)
  rw [ints_len, Int.toNat_natCast]
  exact k

theorem bord_next {f g : Nat → Nat} {r i : Nat} (h : i < (bord f g r i).length) : bord f g r (i + 1) = put (put (bord f g r i) (f (bord f g r i)[i])) (g (bord f g r i)[i]) := by
 show (match (bord f g r i)[i]? with
  | none => bord f g r i
  | some x => bstep f g (bord f g r i) x) = _
 rw [List.getElem?_eq_getElem h]; rfl

theorem put_len (o : List Nat) (d : Nat) : (put o d).length ≤ o.length + 1 := by
 unfold put; split
 ·omega
 ·simp

theorem implNames_ev {n : Nat} {f g : Nat → Nat} (hn : n ≤ 1000) (hf : Bij n f) (hg : Bij n g) {r : Nat} (hr : r < n) (hc : ∀ x, x < n → conn n f g r x) : Ev (fun k => impl_namesFrom.f k (pm n f) (pm n g) (r : Int)) (pm n (name n f g r)) := by
 have order : ∀ d i, i + d = n → Ev (fun k => impl_namesFrom.l1 k (nm n (bord f g r i)) (ints (bord f g r i)) (i : Int) (pm n f) (pm n g)) (pm n (name n f g r)) := by
  intro d
  induction d with
  | zero =>
   intro i hi
   have ei : i = n := by omega
   subst ei
   rw [← nm_name hf hg hr hc]
   exact Ev.step (f := fun _ => some (nm i (bord f g r i))) (fun k => by rw [impl_namesFrom.l1, if_neg (by rw [ints_len, (bord_full hf hg hr hc).1]; omega)]) (Ev.now _)
  | succ d ih =>
   intro i hi
   have hin : i < n := by omega
   have hl := bord_alive hf hg hr hc i hin
   have hx : (bord f g r i)[i] < n := bord_lt hf.1 hg.1 hr i _ (List.getElem_mem hl)
   have le := bord_len_le hf.1 hg.1 hr i
   have next := bord_next (f := f) (g := g) (r := r) hl
   generalize hX : (bord f g r i)[i] = x at hx next
   have e : rd (ints (bord f g r i)) (i : Int) = (x : Int) := by rw [ints_rd hl, hX]
   have f1 := hf.1 x hx
   have g1 := hg.1 x hx
   refine Ev.step (fun k => by rw [impl_namesFrom.l1]) ?_
   refine Ev.pos (by rw [ints_len]; omega) (Ev.pos (by omega) ?_)
   rw [e]
   refine Ev.pos (by omega) (Ev.pos (by rw [pm_length]; omega) (Ev.pos (by rw [pm_length]; omega) (Ev.some1 ?_)))
   rw [rd_pm hx, rd_pm hx]
   refine implNames_one (y := [(f x : Int), (g x : Int)]) (j := 0) f1 hn (by omega) rfl (by omega) (rd_two0 _ _) ?_
   have pl := put_len (bord f g r i) (f x)
   refine implNames_one (y := [(f x : Int), (g x : Int)]) (j := 1) g1 (by omega) (by omega) rfl (by omega) (rd_two1 _ _) ?_
   rw [← next]
   exact Ev.step (f := fun k => impl_namesFrom.l1 k (nm n (bord f g r (i + 1))) (ints (bord f g r (i + 1))) ((i + 1 : Nat) : Int) (pm n f) (pm n g)) (fun k => by rw [impl_namesFrom.l2, if_neg (by omega), wrap_nat (by omega)]) (ih (i + 1) (by omega))
 have init : ∀ d i (s : List Int), i + d = n → s.length = n → (∀ j, j < i → rd s (j : Int) = -1) → Ev (fun k => impl_namesFrom.l0 k (r : Int) s (n : Int) (i : Int) (pm n f) (pm n g)) (pm n (name n f g r)) := by
  intro d
  induction d with
  | zero =>
   intro i s hi hs hall
   have es : s = List.replicate n (-1) := by
    refine List.ext_getElem (by simp [hs]) fun j h1 h2 => ?_
    rw [← rd_get h1, hall j (by omega)]; simp
   refine Ev.step (f := fun k => impl_namesFrom.l1 k (nm n (bord f g r 0)) (ints (bord f g r 0)) ((0 : Nat) : Int) (pm n f) (pm n g)) (fun k => by
    rw [impl_namesFrom.l0, if_neg (by omega), if_pos (by omega), if_pos (by omega), es, Int.toNat_natCast, nm_one hr]; rfl) (order n 0 (by omega))
  | succ d ih =>
   intro i s hi hs hall
   refine Ev.step (f := fun k => impl_namesFrom.l0 k (r : Int) (s.set i (-1)) (n : Int) ((i + 1 : Nat) : Int) (pm n f) (pm n g)) (fun k => by
    rw [impl_namesFrom.l0, if_pos (by omega), if_pos (by omega), if_pos (by omega), Int.toNat_natCast, wrap_nat (by omega)]) (ih (i + 1) _ (by omega) (by simp [hs]) ?_)
   intro j hj
   rw [rd_set (by omega)]
   by_cases c : i = j
   ·rw [if_pos c]
   ·rw [if_neg c]; exact hall j (by omega)
 unfold impl_namesFrom.f
 refine Ev.pos (by omega) (Ev.pos (by rw [pm_length]; omega) (Ev.some1 ?_))
 simp only [pm_length, List.length_replicate, Int.toNat_natCast]
 exact init n 0 _ (by omega) (by simp) (fun j hj => by omega)

theorem specNames_ev {n : Nat} {f g : Nat → Nat} (hn : n ≤ 1000) (hf : Bij n f) (hg : Bij n g) {r : Nat} (hr : r < n) (hc : ∀ x, x < n → conn n f g r x) : Ev (fun k => spec_l2Names.f k (pm n f) (pm n g) (r : Int)) (pm n (name n f g r)) := by
 have order : ∀ d i, i + d = n → Ev (fun k => spec_l2Names.l1 k (nm n (bord f g r i)) (ints (bord f g r i)) (i : Int) (pm n f) (pm n g)) (pm n (name n f g r)) := by
  intro d
  induction d with
  | zero =>
   intro i hi
   have ei : i = n := by omega
   subst ei
   rw [← nm_name hf hg hr hc]
   exact Ev.step (f := fun _ => some (nm i (bord f g r i))) (fun k => by rw [spec_l2Names.l1, if_neg (by rw [ints_len, (bord_full hf hg hr hc).1]; omega)]) (Ev.now _)
  | succ d ih =>
   intro i hi
   have hin : i < n := by omega
   have hl := bord_alive hf hg hr hc i hin
   have hx : (bord f g r i)[i] < n := bord_lt hf.1 hg.1 hr i _ (List.getElem_mem hl)
   have le := bord_len_le hf.1 hg.1 hr i
   have next := bord_next (f := f) (g := g) (r := r) hl
   generalize hX : (bord f g r i)[i] = x at hx next
   have e : rd (ints (bord f g r i)) (i : Int) = (x : Int) := by rw [ints_rd hl, hX]
   have f1 := hf.1 x hx
   have g1 := hg.1 x hx
   refine Ev.step (fun k => by rw [spec_l2Names.l1]) ?_
   refine Ev.pos (by rw [ints_len]; omega) (Ev.pos (by omega) ?_)
   rw [e]
   refine Ev.pos (by omega) (Ev.pos (by rw [pm_length]; omega) (Ev.pos (by rw [pm_length]; omega) ?_))
   rw [rd_pm hx, rd_pm hx]
   refine specNames_one (y := [(f x : Int), (g x : Int)]) (j := 0) f1 hn (by omega) rfl (by omega) (rd_two0 _ _) ?_
   have pl := put_len (bord f g r i) (f x)
   refine specNames_one (y := [(f x : Int), (g x : Int)]) (j := 1) g1 (by omega) (by omega) rfl (by omega) (rd_two1 _ _) ?_
   rw [← next]
   exact Ev.step (f := fun k => spec_l2Names.l1 k (nm n (bord f g r (i + 1))) (ints (bord f g r (i + 1))) ((i + 1 : Nat) : Int) (pm n f) (pm n g)) (fun k => by rw [spec_l2Names.l2, if_neg (by omega), wrap_nat (by omega)]) (ih (i + 1) (by omega))
 have init : ∀ d i (s : List Int), i + d = n → s.length = n → (∀ j, j < i → rd s (j : Int) = -1) → Ev (fun k => spec_l2Names.l0 k (r : Int) s (i : Int) (pm n f) (pm n g)) (pm n (name n f g r)) := by
  intro d
  induction d with
  | zero =>
   intro i s hi hs hall
   have es : s = List.replicate n (-1) := by
    refine List.ext_getElem (by simp [hs]) fun j h1 h2 => ?_
    rw [← rd_get h1, hall j (by omega)]; simp
   refine Ev.step (f := fun k => spec_l2Names.l1 k (nm n (bord f g r 0)) (ints (bord f g r 0)) ((0 : Nat) : Int) (pm n f) (pm n g)) (fun k => by
    rw [spec_l2Names.l0, if_neg (by omega), if_pos (by omega), if_pos (by omega), es, Int.toNat_natCast, nm_one hr]; rfl) (order n 0 (by omega))
  | succ d ih =>
   intro i s hi hs hall
   refine Ev.step (f := fun k => spec_l2Names.l0 k (r : Int) (s.set i (-1)) ((i + 1 : Nat) : Int) (pm n f) (pm n g)) (fun k => by
    rw [spec_l2Names.l0, if_pos (by omega), if_pos (by omega), Int.toNat_natCast, wrap_nat (by omega)]) (ih (i + 1) _ (by omega) (by simp [hs]) ?_)
   intro j hj
   rw [rd_set (by omega)]
   by_cases c : i = j
   ·rw [if_pos c]
   ·rw [if_neg c]; exact hall j (by omega)
 unfold spec_l2Names.f
 refine Ev.pos (by omega) (Ev.pos (by rw [pm_length]; omega) ?_)
 simp only [pm_length, Int.toNat_natCast]
 exact init n 0 _ (by omega) (by simp) (fun j hj => by omega)

theorem implRenamed_ev {n : Nat} {f s g : Nat → Nat} (hn : n ≤ 1000) (hf : Bij n f) (hs : Bij n s) (hg : Bij n g) : Ev (fun k => impl_renamed.f k (pm n f) (pm n s) (pm n g)) (pm n (conj n g f), pm n (conj n g s)) := by
 unfold impl_renamed.f
 exact Ev.bind1 (back_ev hn hg) (Ev.bind1 (mul_ev hn (finv_bij hg).1) (Ev.bind1 (mul_ev hn (comp_bij (finv_bij hg) hf).1) (Ev.bind1 (back_ev hn hg) (Ev.bind1 (mul_ev hn (finv_bij hg).1) (Ev.bind1 (mul_ev hn (comp_bij (finv_bij hg) hs).1) (Ev.now _))))))

theorem specRename_ev {n : Nat} {f s g : Nat → Nat} (h1 : 1 ≤ n) (hn : n ≤ 12) (hf : Bij n f) (hs : Bij n s) (hg : Bij n g) : Ev (fun k => spec_l2Rename.f k (pm n f) (pm n s) (pm n g)) (pm n (conj n g f), pm n (conj n g s)) := by
 have kf : IsPerm n (pm n f) f := ⟨h1, hn, hf, rfl⟩
 have ks : IsPerm n (pm n s) s := ⟨h1, hn, hs, rfl⟩
 have kg : IsPerm n (pm n g) g := ⟨h1, hn, hg, rfl⟩
 have e1 := specConj_ev (a := pm n f) (b := pm n g) (by rw [pm_length]; omega) (by rw [pm_length]; omega)
 have e2 := specConj_ev (a := pm n s) (b := pm n g) (by rw [pm_length]; omega) (by rw [pm_length]; omega)
 rw [conjR_perm kf kg] at e1
 rw [conjR_perm ks kg] at e2
 unfold spec_l2Rename.f
 exact Ev.bind1 e1 (Ev.bind1 e2 (Ev.now _))

/-- the form from the root r -/
def formR (n : Nat) (f g : Nat → Nat) (r : Nat) : List Int × List Int := (pm n (fT n f g r), pm n (fS n f g r))

theorem IsMp.le {n : Nat} {a b : List Int} {f g : Nat → Nat} (h : IsMp n a b f g) : a.length = n ∧ b.length = n ∧ 1 ≤ n ∧ n ≤ 12 := ⟨isPerm_len h.1, isPerm_len h.2.1, h.1.1, h.1.2.1⟩

theorem IsMp.conn {n : Nat} {a b : List Int} {f g : Nat → Nat} (h : IsMp n a b f g) {r : Nat} (hr : r < n) : ∀ x, x < n → conn n f g r x := by
 obtain ⟨_, _, _, o, ho, h0⟩ := h
 intro x hx
 have h1 := ho.conn r hr
 have h2 := ho.conn x hx
 rw [h0 r hr] at h1
 rw [h0 x hx] at h2
 exact conn_trans h1 (conn_symm h2)

theorem IsMp.names {n : Nat} {a b : List Int} {f g : Nat → Nat} (h : IsMp n a b f g) {r : Nat} (hr : r < n) : Ev (fun k => impl_namesFrom.f k a b (r : Int)) (pm n (name n f g r)) := by
 have l := h.le
 rw [h.1.2.2.2, h.2.1.2.2.2]
 exact implNames_ev (by omega) h.1.2.2.1 h.2.1.2.2.1 hr (h.conn hr)

theorem IsMp.name_bij {n : Nat} {a b : List Int} {f g : Nat → Nat} (h : IsMp n a b f g) {r : Nat} (hr : r < n) : Bij n (name n f g r) := Sm.name_bij h.1.2.2.1 h.2.1.2.2.1 hr (h.conn hr)

theorem IsMp.renamed {n : Nat} {a b : List Int} {f g : Nat → Nat} (h : IsMp n a b f g) {r : Nat} (hr : r < n) : Ev (fun k => impl_renamed.f k a b (pm n (name n f g r))) (formR n f g r) := by
 have l := h.le
 rw [h.1.2.2.2, h.2.1.2.2.2]
 exact implRenamed_ev (by omega) h.1.2.2.1 h.2.1.2.2.1 (h.name_bij hr)

theorem IsMp.form {n : Nat} {a b : List Int} {f g : Nat → Nat} (h : IsMp n a b f g) {r : Nat} (hr : r < n) : Ev (fun k => spec_l2Form.f k a b (r : Int)) (formR n f g r) := by
 have l := h.le
 unfold spec_l2Form.f
 rw [h.1.2.2.2, h.2.1.2.2.2]
 exact Ev.bind1 (specNames_ev (by omega) h.1.2.2.1 h.2.1.2.2.1 hr (h.conn hr)) (Ev.bind1 (specRename_ev (by omega) (by omega) h.1.2.2.1 h.2.1.2.2.1 (h.name_bij hr)) (Ev.now _))

theorem cmp_drop {a b : List Int} {i : Nat} (ha : i < a.length) (hb : i < b.length) : cmp (a.drop i) (b.drop i) = if a[i] < b[i] then -1 else if b[i] < a[i] then 1 else cmp (a.drop (i + 1)) (b.drop (i + 1)) := by
 rw [List.drop_eq_getElem_cons ha, List.drop_eq_getElem_cons hb]; rfl

theorem specLexi_ev {a b : List Int} (hl : a.length = b.length) (hn : a.length ≤ 1000) : Ev (fun k => spec_l2Order.f k a b) (cmp a b) := by
 have loop : ∀ d i, i + d = a.length → Ev (fun k => spec_l2Order.l0 k a b (i : Int)) (cmp (a.drop i) (b.drop i)) := by
  intro d
  induction d with
  | zero =>
   intro i hi
   rw [List.drop_of_length_le (by omega), List.drop_of_length_le (by omega)]
   exact Ev.step (f := fun _ => some 0) (fun k => by rw [spec_l2Order.l0, if_neg (by omega)]) (Ev.now _)
  | succ d ih =>
   intro i hi
   have ha : i < a.length := by omega
   have hb : i < b.length := by omega
   rw [cmp_drop ha hb]
   refine Ev.step (fun k => by rw [spec_l2Order.l0]) ?_
   refine Ev.pos (by omega) (Ev.pos (by omega) (Ev.pos (by omega) ?_))
   rw [rd_get ha, rd_get hb]
   by_cases c : a[i] < b[i]
   ·rw [if_pos c]; exact Ev.pos c (Ev.now _)
   ·rw [if_neg c]
    refine Ev.neg c ?_
    by_cases d : b[i] < a[i]
    ·rw [if_pos d]; exact Ev.pos d (Ev.now _)
    ·rw [if_neg d, wrap_nat (by omega)]
     exact Ev.neg d (ih (i + 1) (by omega))
 unfold spec_l2Order.f
 exact loop a.length 0 (by omega)

theorem cmpInt_ev (x y : Int) : cmp_Compare_int.f x y = some (if x < y then -1 else if y < x then 1 else 0) := by
 unfold cmp_Compare_int.f cmp_isNaN_int.f
 simp
 by_cases c : x < y
 ·simp [c]
 ·by_cases d : y < x
  ·simp [c, d]
  ·simp [c, d]

theorem sliceCmp_ev {a b : List Int} (hl : a.length = b.length) (hn : a.length ≤ 1000) : Ev (fun k => slices_Compare_int_int.f k a b) (cmp a b) := by
 have loop : ∀ d i, i + d = a.length → Ev (fun k => slices_Compare_int_int.l0 k a b a (a.length : Int) (i : Int)) (cmp (a.drop i) (b.drop i)) := by
  intro d
  induction d with
  | zero =>
   intro i hi
   rw [List.drop_of_length_le (by omega), List.drop_of_length_le (by omega)]
   exact Ev.step (f := fun _ => some 0) (fun k => by rw [slices_Compare_int_int.l0, if_neg (by omega), if_neg (by omega)]) (Ev.now _)
  | succ d ih =>
   intro i hi
   have ha : i < a.length := by omega
   have hb : i < b.length := by omega
   rw [cmp_drop ha hb]
   refine Ev.step (fun k => by rw [slices_Compare_int_int.l0]) ?_
   refine Ev.pos (by omega) (Ev.pos (by omega) (Ev.pos (by omega) (Ev.neg (by omega) (Ev.pos (by omega) ?_))))
   rw [rd_get ha, rd_get hb, cmpInt_ev]
   refine Ev.some1 ?_
   by_cases c : a[i] < b[i]
   ·simp only [if_pos c]; exact Ev.neg (by omega) (Ev.now _)
   ·simp only [if_neg c]
    by_cases d : b[i] < a[i]
    ·simp only [if_pos d]; exact Ev.neg (by omega) (Ev.now _)
    ·simp only [if_neg d]
     rw [wrap_nat (by omega)]
     exact Ev.pos (by simp) (ih (i + 1) (by omega))
 unfold slices_Compare_int_int.f
 exact loop a.length 0 (by omega)

theorem specBefore_ev {p q : List Int × List Int} (h1 : p.1.length = q.1.length) (h2 : p.2.length = q.2.length) (n1 : p.1.length ≤ 1000) (n2 : p.2.length ≤ 1000) : Ev (fun k => spec_l2Before.f k p.1 p.2 q.1 q.2) (cmp2 p q) := by
 unfold spec_l2Before.f cmp2
 refine Ev.bind1 (specLexi_ev h1 n1) ?_
 by_cases c : cmp p.1 q.1 = 0
 ·rw [if_pos c]; exact Ev.pos c (Ev.bind1 (specLexi_ev h2 n2) (Ev.now _))
 ·rw [if_neg c]; exact Ev.neg c (Ev.now _)

theorem implBefore_ev {p q : List Int × List Int} (h1 : p.1.length = q.1.length) (h2 : p.2.length = q.2.length) (n1 : p.1.length ≤ 1000) (n2 : p.2.length ≤ 1000) : Ev (fun k => impl_compareMaps.f k p.1 p.2 q.1 q.2) (cmp2 p q) := by
 unfold impl_compareMaps.f cmp2
 refine Ev.bind1 (sliceCmp_ev h1 n1) ?_
 by_cases c : cmp p.1 q.1 = 0
 ·rw [if_pos c]; exact Ev.pos c (Ev.bind1 (sliceCmp_ev h2 n2) (Ev.now _))
 ·rw [if_neg c]; exact Ev.neg c (Ev.now _)

theorem formR_len (n : Nat) (f g : Nat → Nat) (r : Nat) : (formR n f g r).1.length = n ∧ (formR n f g r).2.length = n := by simp [formR, pm_length]

def nb (i : Nat) : Nat := if i % 2 = 0 then i + 1 else i - 1

theorem nb_bij {n : Nat} (h : n % 2 = 0) : Bij n nb := by
 constructor
 ·intro i hi; unfold nb; split <;> omega
 ·intro i j hi hj e; unfold nb at e; split at e <;> split at e <;> omega

theorem nb_nb (i : Nat) : nb (nb i) = i := by unfold nb; split <;> split <;> omega

theorem nb_ne (i : Nat) : nb i ≠ i := by unfold nb; split <;> omega

def flipTo (n : Nat) (P : Nat → Nat) (m y : Nat) : Nat := if finv n P y < m then P (nb (finv n P y)) else 0

theorem flip_step {n m : Nat} {P : Nat → Nat} (hP : Bij n P) (hm : m + 1 < n) (he : m % 2 = 0) :
 ((pm n (flipTo n P m)).set (P m) (P (m + 1) : Int)).set (P (m + 1)) (P m : Int) = pm n (flipTo n P (m + 2)) := by
 have h1 := hP.1 m (by omega)
 have h2 := hP.1 (m + 1) (by omega)
 apply eq_pm' (by simp [pm_length])
 intro y hy
 rw [rd_set (by simp [pm_length]; omega), rd_set (by simp [pm_length]; omega), rd_pm hy]
 have fy := finv_spec hP hy
 have n0 : nb m = m + 1 := by unfold nb; rw [if_pos he]
 have n1 : nb (m + 1) = m := by unfold nb; rw [if_neg (by omega)]; omega
 unfold flipTo
 by_cases c : P (m + 1) = y
 ·have e : finv n P y = m + 1 := by rw [← c]; exact finv_left hP (by omega)
  rw [if_pos c, e, if_pos (by omega), n1]
 ·rw [if_neg c]
  by_cases d : P m = y
  ·have e : finv n P y = m := by rw [← d]; exact finv_left hP (by omega)
   rw [if_pos d, e, if_pos (by omega), n0]
  ·rw [if_neg d]
   have e1 : finv n P y ≠ m + 1 := fun e => c (by rw [← e]; exact fy.2)
   have e2 : finv n P y ≠ m := fun e => d (by rw [← e]; exact fy.2)
   by_cases g : finv n P y < m
   ·rw [if_pos g, if_pos (by omega)]
   ·rw [if_neg g, if_neg (by omega)]

theorem flip_loop {n : Nat} {P : Nat → Nat} (hn : n ≤ 12) (hP : Bij n P) {s : List Int} {p : Int} {R : List Int × List Int × Int}
 (cont : Ev (fun k => (spec_l91Perm.f k s p (n : Int)).bind fun t => spec_l91Map.l1 k (n : Int) 0 s t.2 t.1 (pm n (conj n P nb))) R) :
 ∀ d m, m + 2 * d = n → m % 2 = 0 → Ev (fun k => spec_l91Map.l0 k (n : Int) (pm n P) (pm n (flipTo n P m)) (m : Int) s p) R := by
 intro d
 induction d with
 | zero =>
  intro m hm he
  have e : m = n := by omega
  subst e
  have e2 : pm m (flipTo m P m) = pm m (conj m P nb) := by
   rw [pm_ext]
   intro y hy
   unfold flipTo conj
   rw [if_pos (finv_spec hP hy).1]
  rw [e2]
  exact Ev.step (fun k => by rw [spec_l91Map.l0]) (Ev.neg (by rw [wrap_nat (by omega)]; omega) cont)
 | succ d ih =>
  intro m hm he
  have h1 := hP.1 m (by omega)
  have h2 := hP.1 (m + 1) (by omega)
  have w1 : wrap64 ((m : Int) + 1) = ((m + 1 : Nat) : Int) := wrap_nat (by omega)
  have w2 : wrap64 ((m : Int) + 2) = ((m + 2 : Nat) : Int) := by rw [wrap_in (by omega) (by omega)]; omega
  refine Ev.step (fun k => by rw [spec_l91Map.l0, w1, w2, rd_pm (by omega : m < n), rd_pm (by omega : m + 1 < n)]) ?_
  refine Ev.pos (by omega) (Ev.pos (by omega) (Ev.pos (by rw [pm_length]; omega) (Ev.pos (by omega) (Ev.pos (by rw [pm_length]; omega) (Ev.pos (by omega) (Ev.pos (by rw [pm_length]; omega) (Ev.pos (by omega) (Ev.pos (by rw [pm_length]; omega) ?_))))))))
  rw [Int.toNat_natCast, Int.toNat_natCast, flip_step hP (by omega) he]
  exact ih (m + 2) (by omega) (by omega)

theorem map_end {s : List Int} (hs : Bytes s) {p : Int} (h0 : 0 ≤ p) (h1 : p ≤ 1000000) {n : Nat} {i : Int} {A B : List Int} (hA : A.length = n) (hB : B.length = n) (h2 : 1 ≤ n) (h3 : n ≤ 12) :
 ∃ a b, Ev (fun k => spec_l91Map.j2 k (n : Int) i false s p A B) (a, b, p + 1) ∧ a.length ≤ 12 ∧ b.length ≤ 12 := by
 obtain ⟨v, ev, _⟩ := pick_ev hs h0 (p := p) (n := 50) (by omega) (by omega)
 have st : ∀ R, Ev (fun k => if v = 0 then (if 0 < (B.length : Int) then some (A, (B.set (0 : Int).toNat 0), p + 1) else none) else (if v = 1 then (if 1 ≤ (A.length : Int) then some ((A.drop (1 : Int).toNat), B, p + 1) else none) else (if v = 2 then (if 0 < (A.length : Int) then some ((A.set (0 : Int).toNat (n : Int)), B, p + 1) else none) else some (A, B, p + 1)))) R → Ev (fun k => spec_l91Map.j2 k (n : Int) i false s p A B) R := by
  intro R h
  exact Ev.step (fun k => by rw [spec_l91Map.j2]) (Ev.neg (by simp) (Ev.bind1 ev h))
 by_cases c0 : v = 0
 ·exact ⟨_, _, st _ (Ev.pos c0 (Ev.pos (by omega) (Ev.now _))), by omega, by simp; omega⟩
 ·by_cases c1 : v = 1
  ·exact ⟨_, _, st _ (Ev.neg c0 (Ev.pos c1 (Ev.pos (by omega) (Ev.now _)))), by simp; omega, by omega⟩
  ·by_cases c2 : v = 2
   ·exact ⟨_, _, st _ (Ev.neg c0 (Ev.neg c1 (Ev.pos c2 (Ev.pos (by omega) (Ev.now _))))), by simp; omega, by omega⟩
   ·exact ⟨_, _, st _ (Ev.neg c0 (Ev.neg c1 (Ev.neg c2 (Ev.now _)))), by omega, by omega⟩

theorem swap_set {n k : Nat} {f : Nat → Nat} (hk : k < n) : ((pm n f).set 0 (f k : Int)).set k (f 0 : Int) = pm n fun i => f (swp 0 k i) := by
 apply eq_pm' (by simp [pm_length])
 intro y hy
 rw [rd_set (by simp [pm_length]; omega), rd_set (by simp [pm_length]; omega), rd_pm hy]
 unfold swp
 by_cases c : k = y
 ·subst c
  rw [if_pos rfl]
  by_cases d : k = 0
  ·subst d; simp
  ·rw [if_neg d, if_pos rfl]
 ·rw [if_neg c]
  by_cases d : 0 = y
  ·subst d; simp
  ·rw [if_neg d, if_neg (by omega), if_neg (by omega)]

theorem map_loop {s : List Int} (hs : Bytes s) {p : Int} (h0 : 0 ≤ p) (h1 : p ≤ 1000000) {n : Nat} {g : Nat → Nat} (h2 : 1 ≤ n) (h3 : n ≤ 12) (hg : Bij n g) (gg : ∀ i, i < n → g i ≠ i ∧ g (g i) = i) :
 ∀ d i (f : Nat → Nat), i + d = n → Bij n f → ∃ a b, Ev (fun k => spec_l91Map.l1 k (n : Int) (i : Int) s p (pm n f) (pm n g)) (a, b, p + 1) ∧ a.length ≤ 12 ∧ b.length ≤ 12 := by
 intro d
 induction d with
 | zero =>
  intro i f hi hf
  obtain ⟨a, b, e, l1, l2⟩ := map_end hs h0 h1 (i := (i : Int)) (pm_length n f) (pm_length n g) h2 h3
  exact ⟨a, b, Ev.step (fun k => by rw [spec_l91Map.l1]) (Ev.neg (by omega) e), l1, l2⟩
 | succ d ih =>
  intro i f hi hf
  have mv := specMapValid_ev (a := pm n f) (b := pm n g) (by rw [pm_length]; omega) (by rw [pm_length]; omega)
  by_cases c : mvalid (pm n f) (pm n g) = true
  ·obtain ⟨a, b, e, l1, l2⟩ := map_end hs h0 h1 (i := (i : Int)) (pm_length n f) (pm_length n g) h2 h3
   refine ⟨a, b, Ev.step (fun k => by rw [spec_l91Map.l1]) (Ev.pos (by omega) (Ev.bind1 mv ?_)), l1, l2⟩
   rw [c]; exact e
  ·obtain ⟨o, ho, _⟩ := implOrbits_ex (n := n) (by omega) h2 hf hg
   have so := specOrbits_ev (n := n) (by omega) hf hg ho
   have ex : ∃ x, x < n ∧ o x ≠ 0 := by
    apply Classical.byContradiction
    intro hh
    apply c
    rw [mvalid_iff, mapAt_iff ⟨h2, h3, hf, rfl⟩ ⟨h2, h3, hg, rfl⟩ ho]
    exact ⟨gg, fun x hx => Classical.byContradiction fun hx' => hh ⟨x, hx, hx'⟩⟩
   have srch : ∀ e j, j + e = n → (∀ x, x < j → o x = 0) → ∃ a b, Ev (fun k => spec_l91Map.l2 k (n : Int) (i : Int) (pm n o) (j : Int) s p (pm n f) (pm n g)) (a, b, p + 1) ∧ a.length ≤ 12 ∧ b.length ≤ 12 := by
    intro e
    induction e with
    | zero =>
     intro j hj hz
     obtain ⟨x, hx, hx'⟩ := ex
     exact (hx' (hz x (by omega))).elim
    | succ e ihe =>
     intro j hj hz
     have hjn : j < n := by omega
     by_cases z : o j = 0
     ·obtain ⟨a, b, e1, l1, l2⟩ := ihe (j + 1) (by omega) (fun x hx => by
       by_cases q : x = j
       ·rw [q]; exact z
       ·exact hz x (by omega))
      refine ⟨a, b, Ev.step (fun k => by rw [spec_l91Map.l2]) (Ev.pos (by omega) (Ev.pos (by rw [pm_length]; omega) (Ev.pos (by rw [rd_pm hjn, z]; rfl) ?_))), l1, l2⟩
      rw [wrap_nat (by omega)]; exact e1
     ·have hsw : Bij n fun x => f (swp 0 j x) := comp_bij (swp_bij (by omega) hjn) hf
      obtain ⟨a, b, e1, l1, l2⟩ := ih (i + 1) (fun x => f (swp 0 j x)) (by omega) hsw
      refine ⟨a, b, Ev.step (fun k => by rw [spec_l91Map.l2]) (Ev.pos (by omega) (Ev.pos (by rw [pm_length]; omega) (Ev.neg (by rw [rd_pm hjn]; omega) (Ev.pos (by rw [pm_length]; omega) (Ev.pos (by rw [pm_length]; omega) ?_))))), l1, l2⟩
      have r0 : rd (pm n f) 0 = (f 0 : Int) := rd_pm (i := 0) (by omega)
      rw [wrap_nat (by omega), rd_pm hjn, r0, Int.toNat_natCast, show (0 : Int).toNat = 0 from rfl, swap_set hjn]
      exact e1
   obtain ⟨a, b, e, l1, l2⟩ := srch n 0 (by omega) (fun x hx => by omega)
   refine ⟨a, b, Ev.step (fun k => by rw [spec_l91Map.l1]) (Ev.pos (by omega) (Ev.bind1 mv ?_)), l1, l2⟩
   have c' : mvalid (pm n f) (pm n g) = false := by simpa using c
   rw [c']
   show Ev (fun k => spec_l91Map.j2 k (n : Int) (i : Int) true s p (pm n f) (pm n g)) _
   refine Ev.step (fun k => by rw [spec_l91Map.j2]) (Ev.pos rfl (Ev.bind1 so ?_))
   exact e

/-- a drawn map -/
theorem map_ev {s : List Int} (hs : Bytes s) {p : Int} (h0 : 0 ≤ p) (h1 : p ≤ 100000) {e : Int} (he : 1 ≤ e) (he2 : e ≤ 6) :
 ∃ a b p', Ev (fun k => spec_l91Map.f k s p e) (a, b, p') ∧ a.length ≤ 12 ∧ b.length ≤ 12 ∧ p ≤ p' ∧ p' ≤ p + 100 := by
 obtain ⟨v, ev, v0, _, v1⟩ := pick_ev hs h0 (p := p) (n := e) (by omega) (by omega)
 have v2 := v1 he
 obtain ⟨n, hn⟩ : ∃ n : Nat, (n : Int) = 2 * (1 + v) := ⟨(2 * (1 + v)).toNat, by omega⟩
 have w1 : wrap64 (2 * wrap64 (1 + v)) = (n : Int) := by rw [wrap_in (n := 1 + v) (by omega) (by omega), wrap_in (by omega) (by omega), hn]
 obtain ⟨P, hP, eP⟩ := perm_ev hs (p := p + 1) (n := n) (by omega) (by omega) (by omega)
 obtain ⟨T, hT, eT⟩ := perm_ev hs (p := p + 1 + n) (n := n) (by omega) (by omega) (by omega)
 have even : n % 2 = 0 := by omega
 have hg : Bij n (conj n P nb) := conj_bij hP (nb_bij even)
 have gg : ∀ i, i < n → conj n P nb i ≠ i ∧ conj n P nb (conj n P nb i) = i := by
  intro i hi
  have fi := finv_spec hP hi
  have nl := (nb_bij even).1 _ fi.1
  have c1 : conj n P nb i = P (nb (finv n P i)) := rfl
  constructor
  ·rw [c1]
   intro e'
   have := hP.2 _ _ nl fi.1 (by rw [e', fi.2])
   exact nb_ne _ this
  ·rw [c1, conj_at hP nl, nb_nb, fi.2]
 obtain ⟨a, b, el, l1, l2⟩ := map_loop hs (p := p + 1 + n + n) (by omega) (by omega) (n := n) (by omega) (by omega) hg gg n 0 T (by omega) hT
 have cont : Ev (fun k => (spec_l91Perm.f k s (p + 1 + n) (n : Int)).bind fun t => spec_l91Map.l1 k (n : Int) 0 s t.2 t.1 (pm n (conj n P nb))) (a, b, p + 1 + n + n + 1) := Ev.bind1 eT el
 have f0 : pm n (flipTo n P 0) = List.replicate n 0 := by
  apply Eq.symm
  apply eq_pm' (by simp)
  intro i hi
  unfold flipTo rd
  simp [List.getD_eq_getElem?_getD, hi]
 have fl := flip_loop (by omega) hP cont (n / 2) 0 (by omega) (by omega)
 rw [f0] at fl
 refine ⟨a, b, p + 1 + n + n + 1, ?_, l1, l2, by omega, by omega⟩
 unfold spec_l91Map.f
 refine Ev.bind1 ev ?_
 dsimp only
 rw [w1]
 refine Ev.bind1 eP (Ev.pos (by omega) (Ev.pos (by omega) ?_))
 rw [Int.toNat_natCast]
 exact fl

theorem IsMp.faces {n : Nat} {a b : List Int} {f g : Nat → Nat} (h : IsMp n a b f g) : Ev (fun k => impl_mul.f k b a) (pm n fun i => f (g i)) := by
 have h12 := h.1.2.1
 rw [h.1.2.2.2, h.2.1.2.2.2]
 exact mul_ev (by omega) h.2.1.2.2.1.1

def turnsTo (n : Nat) (f g : Nat → Nat) : Nat → Nat
 | 0 => 0
 | i + 1 => if cmp2 (formR n f g i) (formR n f g 0) = 0 then turnsTo n f g i + 1 else turnsTo n f g i

theorem turnsTo_le (n : Nat) (f g : Nat → Nat) (i : Nat) : turnsTo n f g i ≤ i := by
 induction i with
 | zero => exact Nat.le_refl _
 | succ i ih => unfold turnsTo; split <;> omega

theorem turns_both {a b : List Int} (ha : a.length ≤ 1048576) (hb : b.length ≤ 1048576) : ∃ r : Int, Ev (fun k => spec_MapTurns.f k a b) r ∧ Ev (fun k => impl_MapTurns.f k a b) r := by
 by_cases c : mvalid a b = true
 ·obtain ⟨n, f, g, h⟩ := (mvalid_iff a b).1 c
  have l := h.le
  have f0 := formR_len n f g 0
  refine ⟨(turnsTo n f g n : Int), ?_, ?_⟩
  ·have loop : ∀ d i, i + d = n → Ev (fun k => spec_MapTurns.l0 k (turnsTo n f g i : Int) (i : Int) a b) (turnsTo n f g n : Int) := by
    intro d
    induction d with
    | zero =>
     intro i hi
     have e : i = n := by omega
     subst e
     exact Ev.step (f := fun _ => some (turnsTo i f g i : Int)) (fun k => by rw [spec_MapTurns.l0, if_neg (by omega)]) (Ev.now _)
    | succ d ih =>
     intro i hi
     have hin : i < n := by omega
     have fl := formR_len n f g i
     have tl := turnsTo_le n f g i
     refine Ev.step (fun k => by rw [spec_MapTurns.l0]) ?_
     refine Ev.pos (by omega) (Ev.bind1 (h.form hin) (Ev.bind1 (h.form (r := 0) (by omega)) (Ev.bind1 (specBefore_ev (p := formR n f g i) (q := formR n f g 0) (by omega) (by omega) (by omega) (by omega)) ?_)))
     rw [wrap_nat (by omega), wrap_nat (by omega)]
     have := ih (i + 1) (by omega)
     by_cases z : cmp2 (formR n f g i) (formR n f g 0) = 0
     ·have e : turnsTo n f g (i + 1) = turnsTo n f g i + 1 := by show (if _ then _ else _) = _; rw [if_pos z]
      rw [e] at this
      exact Ev.pos z this
     ·have e : turnsTo n f g (i + 1) = turnsTo n f g i := by show (if _ then _ else _) = _; rw [if_neg z]
      rw [e] at this
      exact Ev.neg z this
   exact Ev.bind1 (specMapValid_ev (by omega) (by omega)) (Ev.pos c (loop n 0 (by omega)))
  ·have loop : ∀ d i, i + d = n → Ev (fun k => impl_MapTurns.l0 k (turnsTo n f g i : Int) (n : Int) (i : Int) a b (formR n f g 0).1 (formR n f g 0).2) (turnsTo n f g n : Int) := by
    intro d
    induction d with
    | zero =>
     intro i hi
     have e : i = n := by omega
     subst e
     exact Ev.step (f := fun _ => some (turnsTo i f g i : Int)) (fun k => by rw [impl_MapTurns.l0, if_neg (by omega)]) (Ev.now _)
    | succ d ih =>
     intro i hi
     have hin : i < n := by omega
     have fl := formR_len n f g i
     have tl := turnsTo_le n f g i
     refine Ev.step (fun k => by rw [impl_MapTurns.l0]) ?_
     refine Ev.pos (by omega) (Ev.bind1 (h.names hin) (Ev.bind1 (h.renamed hin) (Ev.bind1 (implBefore_ev (p := formR n f g i) (q := formR n f g 0) (by omega) (by omega) (by omega) (by omega)) ?_)))
     rw [wrap_nat (by omega), wrap_nat (by omega)]
     have := ih (i + 1) (by omega)
     by_cases z : cmp2 (formR n f g i) (formR n f g 0) = 0
     ·have e : turnsTo n f g (i + 1) = turnsTo n f g i + 1 := by show (if _ then _ else _) = _; rw [if_pos z]
      rw [e] at this
      exact Ev.pos z this
     ·have e : turnsTo n f g (i + 1) = turnsTo n f g i := by show (if _ then _ else _) = _; rw [if_neg z]
      rw [e] at this
      exact Ev.neg z this
   unfold impl_MapTurns.f
   rw [l.1]
   exact Ev.bind1 (implMapValid_ev a b) (Ev.pos c (Ev.bind1 (h.names (r := 0) (by omega)) (Ev.bind1 (h.renamed (by omega)) (loop n 0 (by omega)))))
 ·exact ⟨-1, Ev.bind1 (specMapValid_ev (by omega) (by omega)) (Ev.neg c (Ev.now _)), Ev.bind1 (implMapValid_ev a b) (Ev.neg c (Ev.now _))⟩

theorem IsMp.map {n : Nat} {a b : List Int} {f g : Nat → Nat} (h : IsMp n a b f g) : IsMap n f g := ⟨by have := h.1.1; omega, h.1.2.2.1, h.2.1.2.2.1, h.conn (by have := h.1.1; omega)⟩

theorem IsMp.ss {n : Nat} {a b : List Int} {f g : Nat → Nat} (h : IsMp n a b f g) : ∀ x, x < n → g (g x) = x := fun x hx => (h.2.2.1 x hx).2

theorem isMp_of {n : Nat} {f g : Nat → Nat} (h1 : 1 ≤ n) (h2 : n ≤ 12) (h : IsMap n f g) (gg : ∀ i, i < n → g i ≠ i ∧ g (g i) = i) : IsMp n (pm n f) (pm n g) f g :=
 ⟨⟨h1, h2, h.bt, rfl⟩, ⟨h1, h2, h.bs, rfl⟩, gg, fun _ => 0, ⟨fun x hx => ⟨rfl, rfl⟩, fun x hx => Nat.zero_le _, fun x hx => conn_symm (h.co x hx)⟩, fun x hx => rfl⟩

theorem IsMp.pm {n : Nat} {a b : List Int} {f g : Nat → Nat} (h : IsMp n a b f g) : a = Sm.pm n f ∧ b = Sm.pm n g := ⟨h.1.2.2.2, h.2.1.2.2.2⟩

theorem IsMp.dual {n : Nat} {a b : List Int} {f g : Nat → Nat} (h : IsMp n a b f g) : IsMp n (Sm.pm n fun i => f (g i)) b (fun i => f (g i)) g := by
 rw [h.pm.2]; exact isMp_of h.1.1 h.1.2.1 (dual_isMap h.map h.ss) h.2.2.1

theorem dualI {n : Nat} {a b : List Int} {f g : Nat → Nat} (h : IsMp n a b f g) : Ev (fun k => impl_MapDual.f k a b) (Sm.pm n (fun i => f (g i)), b, true) := by
 have l := h.le
 exact Ev.bind1 (implMapValid_ev a b) (Ev.pos (mvalid_yes ⟨n, f, g, h⟩) (Ev.bind1 h.faces (Ev.bind1 (clone_ev (by omega)) (Ev.now _))))

theorem formI {n : Nat} {a b : List Int} {f g : Nat → Nat} (h : IsMp n a b f g) {r : Nat} (hr : r < n) : Ev (fun k => impl_MapForm.f k a b (r : Int)) ((formR n f g r).1, (formR n f g r).2, true) := by
 have l := h.le
 unfold impl_MapForm.f
 refine Ev.bind1 (implMapValid_ev a b) (Ev.pos (mvalid_yes ⟨n, f, g, h⟩) (Ev.neg (by omega) ?_))
 rw [decide_eq_false (by omega)]
 refine Ev.step (fun k => by rw [impl_MapForm.j0]) ?_
 exact Ev.neg (by simp) (Ev.bind1 (h.names hr) (Ev.bind1 (h.renamed hr) (Ev.now _)))

theorem ev_uniq {α : Type} {g : Nat → Option α} {r s : α} (h : Ev g r) (k : Ev g s) : r = s := by
 obtain ⟨a, ha⟩ := h
 obtain ⟨b, hb⟩ := k
 have e1 := ha (a + b) (by omega)
 have e2 := hb (a + b) (by omega)
 rw [e1] at e2
 exact Option.some.inj e2

theorem turnsI {n : Nat} {a b : List Int} {f g : Nat → Nat} (h : IsMp n a b f g) : Ev (fun k => impl_MapTurns.f k a b) (turnsTo n f g n : Int) := by
 have l := h.le
 have f0 := formR_len n f g 0
 have loop : ∀ d i, i + d = n → Ev (fun k => impl_MapTurns.l0 k (turnsTo n f g i : Int) (n : Int) (i : Int) a b (formR n f g 0).1 (formR n f g 0).2) (turnsTo n f g n : Int) := by
  intro d
  induction d with
  | zero =>
   intro i hi
   have e : i = n := by omega
   subst e
   exact Ev.step (f := fun _ => some (turnsTo i f g i : Int)) (fun k => by rw [impl_MapTurns.l0, if_neg (by omega)]) (Ev.now _)
  | succ d ih =>
   intro i hi
   have hin : i < n := by omega
   have fl := formR_len n f g i
   have tl := turnsTo_le n f g i
   refine Ev.step (fun k => by rw [impl_MapTurns.l0]) ?_
   refine Ev.pos (by omega) (Ev.bind1 (h.names hin) (Ev.bind1 (h.renamed hin) (Ev.bind1 (implBefore_ev (p := formR n f g i) (q := formR n f g 0) (by omega) (by omega) (by omega) (by omega)) ?_)))
   rw [wrap_nat (by omega), wrap_nat (by omega)]
   have := ih (i + 1) (by omega)
   by_cases z : cmp2 (formR n f g i) (formR n f g 0) = 0
   ·have e : turnsTo n f g (i + 1) = turnsTo n f g i + 1 := by show (if _ then _ else _) = _; rw [if_pos z]
    rw [e] at this
    exact Ev.pos z this
   ·have e : turnsTo n f g (i + 1) = turnsTo n f g i := by show (if _ then _ else _) = _; rw [if_neg z]
    rw [e] at this
    exact Ev.neg z this
 unfold impl_MapTurns.f
 rw [l.1]
 exact Ev.bind1 (implMapValid_ev a b) (Ev.pos (mvalid_yes ⟨n, f, g, h⟩) (Ev.bind1 (h.names (r := 0) (by omega)) (Ev.bind1 (h.renamed (by omega)) (loop n 0 (by omega)))))

theorem turnsTo_count (n : Nat) (f g : Nat → Nat) : ∀ i, turnsTo n f g i = (List.range i).countP fun r => cmp2 (formR n f g r) (formR n f g 0) == 0
 | 0 => rfl
 | i + 1 => by
  rw [List.range_succ, List.countP_append, ← turnsTo_count n f g i]
  show (if _ then _ else _) = _
  by_cases z : cmp2 (formR n f g i) (formR n f g 0) = 0
  ·rw [if_pos z]; simp [z]
  ·rw [if_neg z]; simp [z]

theorem cmp_form {n : Nat} {f g : Nat → Nat} {r q : Nat} : (cmp2 (formR n f g r) (formR n f g q) == 0) = true ↔ same n f g r q := by
 rw [beq_iff_eq, cmp2_eq]
 exact form_same

theorem sameMap_ev {a b c d : List Int} (ha : a.length ≤ 1000) (hb : b.length ≤ 1000) : Ev (fun k => laws_sameMap.f k a b c d) (decide ((a, b) = (c, d))) := by
 have e1 := sameInts_ev (a := a) (b := c) (by omega)
 have e2 := sameInts_ev (a := b) (b := d) (by omega)
 unfold laws_sameMap.f
 refine Ev.bind1 e1 ?_
 by_cases x : a = c
 ·subst x
  refine Ev.pos (by simp) (Ev.bind1 e2 ?_)
  have : decide ((a, b) = (a, d)) = decide (b = d) := by simp
  rw [this]; exact Ev.now _
 ·have : decide ((a, b) = (c, d)) = false := decide_eq_false fun e => x (Prod.mk.inj e).1
  rw [this]
  exact Ev.neg (by simpa using x) (Ev.now _)

theorem drawTurns_ev {l : List Int} (hw : ∀ x ∈ l, (Lit.int .u8 x).wf = true) : ∃ a b, Ev (fun k => spec_DrawMapTurns.f k l) (a, b) ∧ a.length ≤ 12 ∧ b.length ≤ 12 := by
 obtain ⟨s, hs, es⟩ := open_ev hw
 obtain ⟨v, e1, v0, _, v1⟩ := pick_ev hs (p := 0) (n := 3) (by omega) (by omega) (by omega)
 by_cases z : v = 0
 ·obtain ⟨u, e2, u0, _, u1⟩ := pick_ev hs (p := 0 + 1) (n := 5) (by omega) (by omega) (by omega)
  have u2 := u1 (by omega)
  obtain ⟨N, hN⟩ : ∃ N : Nat, wrap64 (1 + u) = N := ⟨(1 + u).toNat, by unfold wrap64; omega⟩
  have hN2 : 1 ≤ N ∧ N ≤ 5 := by unfold wrap64 at hN; omega
  have w2 : wrap64 (2 * (N : Int)) = ((2 * N : Nat) : Int) := by unfold wrap64; omega
  have second : ∀ a : List Int, ∀ d i (acc : List Int), i + d = 2 * N → acc.length = i → ∃ b : List Int, b.length = 2 * N ∧ Ev (fun k => spec_DrawMapTurns.l1 k (N : Int) a acc (i : Int)) (a, b) := by
   intro a d
   induction d with
   | zero =>
    intro i acc hi ha
    exact ⟨acc, by omega, Ev.step (f := fun _ => some (a, acc)) (fun k => by rw [spec_DrawMapTurns.l1, w2, if_neg (by omega)]) (Ev.now _)⟩
   | succ d ih =>
    intro i acc hi ha
    obtain ⟨b, h1, h2⟩ := ih (i + 1) (acc ++ [Int.tmod (wrap64 ((i : Int) + N)) ((2 * N : Nat) : Int)]) (by omega) (by simp [ha])
    refine ⟨b, h1, Ev.step (fun k => by rw [spec_DrawMapTurns.l1, w2]) ?_⟩
    rw [wrap_nat (by omega)]
    exact Ev.pos (by omega) (Ev.neg (by omega) (Ev.pos (by omega) h2))
  have first : ∀ d i (acc : List Int), i + d = 2 * N → acc.length = i → ∃ a : List Int, a.length = 2 * N ∧ ∀ R, Ev (fun k => spec_DrawMapTurns.l1 k (N : Int) a [] ((0 : Nat) : Int)) R → Ev (fun k => spec_DrawMapTurns.l0 k (N : Int) acc (i : Int)) R := by
   intro d
   induction d with
   | zero =>
    intro i acc hi ha
    exact ⟨acc, by omega, fun R hR => Ev.step (fun k => by rw [spec_DrawMapTurns.l0, w2, if_neg (by omega)]; rfl) hR⟩
   | succ d ih =>
    intro i acc hi ha
    obtain ⟨a, h1, h2⟩ := ih (i + 1) (acc ++ [Int.tmod (wrap64 ((i : Int) + 1)) ((2 * N : Nat) : Int)]) (by omega) (by simp [ha])
    refine ⟨a, h1, fun R hR => Ev.step (fun k => by rw [spec_DrawMapTurns.l0, w2]) ?_⟩
    have := h2 R hR
    rw [wrap_nat (by omega)] at this ⊢
    exact Ev.pos (by omega) (Ev.neg (by omega) (Ev.pos (by omega) this))
  obtain ⟨a, a1, a2⟩ := first (2 * N) 0 [] (by omega) rfl
  obtain ⟨b, b1, b2⟩ := second a (2 * N) 0 [] (by omega) rfl
  refine ⟨a, b, Ev.bind1 es (Ev.bind1 e1 (Ev.pos z (Ev.bind1 e2 ?_))), by omega, by omega⟩
  rw [hN]; exact a2 _ b2
 ·obtain ⟨a, b, p', em, ha, hb, _⟩ := map_ev hs (p := 0 + 1) (by omega) (by omega) (e := 4) (by omega) (by omega)
  exact ⟨a, b, Ev.bind1 es (Ev.bind1 e1 (Ev.neg z (Ev.bind1 em (Ev.now _)))), by omega, by omega⟩

/-- the forms from the darts so far, each once -/
structure Forms (n : Nat) (f g : Nat → Nat) (i : Nat) (L : List S25) : Prop where
 nd : (L.map fun x => (x.f0, x.f1)).Nodup
 mem : ∀ y, y ∈ (L.map fun x => (x.f0, x.f1)) ↔ ∃ a, a < i ∧ formR n f g a = y
 le : L.length ≤ i

theorem rdT_get {L : List S25} {i : Nat} (h : i < L.length) : rd_T25 L (i : Int) = L[i] := by
 unfold rd_T25; simp [h]

/-- is it a new one? -/
theorem fresh_ev {x4 x6 x10 : Int} {x8 : Bool} {a b c e p q : List Int} {L : List S25} (hL : L.length ≤ 1000) (hl : ∀ x, x ∈ L → x.f0.length ≤ 1000 ∧ x.f1.length ≤ 1000) {R : Bool}
 (k : Ev (fun k => laws_FnTurns.l1 k x4 x6 x8 L x10 true (decide ((p, q) ∉ (L.map fun x => (x.f0, x.f1)))) ((L.length : Nat) : Int) a b c e p q) R) : Ev (fun k => laws_FnTurns.l1 k x4 x6 x8 L x10 true true ((0 : Nat) : Int) a b c e p q) R := by
 have off : (p, q) ∈ (L.map fun x => (x.f0, x.f1)) → ∀ d j, j + d = L.length → Ev (fun k => laws_FnTurns.l1 k x4 x6 x8 L x10 true false (j : Int) a b c e p q) R := by
  intro hm d
  induction d with
  | zero =>
   intro j hj
   rw [decide_eq_false (fun h => h hm)] at k
   rw [show j = L.length by omega]; exact k
  | succ d ih =>
   intro j hj
   refine Ev.step (fun k => by rw [laws_FnTurns.l1]) (Ev.pos (by omega) (Ev.neg (by simp) ?_))
   rw [wrap_nat (by omega)]
   exact ih (j + 1) (by omega)
 have on : ∀ d j, j + d = L.length → (∀ x, x ∈ L.take j → (x.f0, x.f1) ≠ (p, q)) → Ev (fun k => laws_FnTurns.l1 k x4 x6 x8 L x10 true true (j : Int) a b c e p q) R := by
  intro d
  induction d with
  | zero =>
   intro j hj h
   have hn : (p, q) ∉ (L.map fun x => (x.f0, x.f1)) := by
    intro hm
    obtain ⟨x, hx, ex⟩ := List.mem_map.1 hm
    rw [List.take_of_length_le (by omega)] at h
    exact h x hx ex
   rw [decide_eq_true hn] at k
   rw [show j = L.length by omega]; exact k
  | succ d ih =>
   intro j hj h
   have hj' : j < L.length := by omega
   obtain ⟨l0, l1⟩ := hl _ (List.getElem_mem hj')
   refine Ev.step (fun k => by rw [laws_FnTurns.l1]) (Ev.pos (by omega) (Ev.pos rfl (Ev.pos (by omega) ?_)))
   rw [rdT_get hj', wrap_nat (by omega)]
   refine Ev.bind1 (sameMap_ev (c := p) (d := q) l0 l1) ?_
   by_cases eq : ((L[j]).f0, (L[j]).f1) = (p, q)
   ·rw [decide_eq_true eq]
    exact off (List.mem_map.2 ⟨L[j], List.getElem_mem hj', eq⟩) d (j + 1) (by omega)
   ·rw [decide_eq_false eq]
    refine ih (j + 1) (by omega) fun x hx => ?_
    rw [List.take_succ_eq_append_getElem hj'] at hx
    rcases List.mem_append.1 hx with hx | hx
    ·exact h x hx
    ·simp at hx; subst hx; exact eq
 exact on L.length 0 (by omega) (by simp)

theorem turns_class {n : Nat} {a b : List Int} {f g : Nat → Nat} (m : IsMp n a b f g) : ∀ r, r < n → (List.range n).countP (fun x => formR n f g x == formR n f g r) = turnsTo n f g n := by
 intro r hr
 rw [turnsTo_count]
 refine class_eq m.map hr (by have := m.map.pos; omega) _ _ (fun x hx => ?_) (fun x hx => cmp_form)
 rw [beq_iff_eq]; exact form_same

theorem turns_pos {n : Nat} {a b : List Int} {f g : Nat → Nat} (m : IsMp n a b f g) : 1 ≤ turnsTo n f g n := by
 rw [← turns_class m 0 m.map.pos]
 exact List.countP_pos_iff.2 ⟨0, List.mem_range.2 m.map.pos, by simp⟩

theorem turns_dual {n : Nat} {a b : List Int} {f g : Nat → Nat} (m : IsMp n a b f g) : turnsTo n (fun i => f (g i)) g n = turnsTo n f g n := by
 rw [turnsTo_count, turnsTo_count]
 refine countP_congr' fun r hr => ?_
 have hr := List.mem_range.1 hr
 rw [Bool.eq_iff_iff, cmp_form, cmp_form]
 exact same_dual m.map m.ss hr m.map.pos

theorem mod_of {a b c : Nat} (e : a = b * c) : a % c = 0 := by rw [e]; exact Nat.mul_mod_left b c

theorem div_of {a b c : Nat} (e : a = b * c) (h : 0 < c) : a / c = b := by rw [e]; exact Nat.mul_div_cancel b h

/-- Turns divide the darts. -/
theorem FnTurns : laws_FnTurns.Pure := by
 intro l hl1 hl2 hw
 refine Ev.rounds ?_
 unfold laws_FnTurns.f
 by_cases c : (l.length : Int) > 1048576
 ·exact Ev.pos c (Ev.now _)
 obtain ⟨a, b, dr, ha, hb⟩ := drawTurns_ev hw
 obtain ⟨r, e1, e2⟩ := turns_both (a := a) (b := b) (by omega) (by omega)
 refine Ev.neg c (Ev.bind1 dr (Ev.bind1 e2 (Ev.bind1 e1 (Ev.pos rfl ?_))))
 by_cases v : mvalid a b = true
 case neg =>
  have : Ev (fun k => impl_MapTurns.f k a b) (-1) := Ev.bind1 (implMapValid_ev a b) (Ev.neg v (Ev.now _))
  obtain rfl := ev_uniq e2 this
  refine Ev.step (fun k => by rw [laws_FnTurns.j0]) (Ev.pos (by decide) ?_)
  exact Ev.now _
 obtain ⟨n, f, g, m⟩ := (mvalid_iff a b).1 v
 obtain rfl := ev_uniq e2 (turnsI m)
 have lm := m.le
 have tp := turns_pos m
 rw [decide_eq_false (by omega)]
 refine Ev.step (fun k => by rw [laws_FnTurns.j0]) (Ev.neg (by simp) (Ev.bind1 (dualI m) ?_))
 rw [lm.1]
 have td := turnsI m.dual
 rw [turns_dual m] at td
 have loop : ∀ d i (L : List S25), i + d = n → Forms n f g i L → Ev (fun k => laws_FnTurns.l0 k (turnsTo n f g n : Int) (n : Int) true L (i : Int) a b (Sm.pm n fun i => f (g i)) b) true := by
  intro d
  induction d with
  | zero =>
   intro i L hi F
   have hi : i = n := by omega
   subst hi
   have cnt := count_classes (fun x => formR i f g x) i (turnsTo i f g i) (turns_class m) _ F.nd F.mem
   rw [List.length_map] at cnt
   have d1 : Int.tmod (i : Int) (turnsTo i f g i : Int) = 0 := by
    rw [Int.tmod_eq_emod_of_nonneg (Int.natCast_nonneg _)]
    have : i % turnsTo i f g i = 0 := mod_of cnt
    omega
   have d2 : wrap64 (Int.tdiv (i : Int) (turnsTo i f g i : Int)) = (L.length : Int) := by
    have h0 : Int.tdiv (i : Int) (turnsTo i f g i : Int) = ((i / turnsTo i f g i : Nat) : Int) := by
     rw [Int.tdiv_eq_ediv_of_nonneg (Int.natCast_nonneg _)]; exact (Int.natCast_ediv _ _).symm
    have : i / turnsTo i f g i = L.length := div_of cnt (by omega)
    have le := F.le
    rw [h0, this]; unfold wrap64; omega
   refine Ev.step (fun k => by rw [laws_FnTurns.l0]) (Ev.neg (by omega) (Ev.pos rfl (Ev.pos (by omega) (Ev.neg (by omega) (Ev.pos d1 (Ev.pos d2.symm (Ev.bind1 td ?_)))))))
   rw [show ((turnsTo i f g i : Int) == (turnsTo i f g i : Int)) = true by simp]
   exact Ev.now _
  | succ d ih =>
   intro i L hi F
   have hin : i < n := by omega
   have fl := formR_len n f g i
   have le := F.le
   refine Ev.step (fun k => by rw [laws_FnTurns.l0]) (Ev.pos (by omega) (Ev.bind1 (formI m hin) ?_))
   refine fresh_ev (L := L) (p := (formR n f g i).1) (q := (formR n f g i).2) (by omega) (fun x hx => ?_) ?_
   ·obtain ⟨r, hr, er⟩ := (F.mem (x.f0, x.f1)).1 (List.mem_map.2 ⟨x, hx, rfl⟩)
    have lr := formR_len n f g r
    rw [er] at lr
    have l1 : x.f0.length = n := lr.1
    have l2 : x.f1.length = n := lr.2
    omega
   refine Ev.step (fun k => by rw [laws_FnTurns.l1]) (Ev.neg (by omega) (Ev.pos rfl ?_))
   rw [wrap_nat (by omega)]
   by_cases w : ((formR n f g i).1, (formR n f g i).2) ∈ (L.map fun x => (x.f0, x.f1))
   ·rw [decide_eq_false (fun h => h w)]
    refine Ev.neg (by simp) (ih (i + 1) L (by omega) ⟨F.nd, fun y => ?_, by omega⟩)
    rw [F.mem]
    constructor
    ·rintro ⟨r, hr, er⟩; exact ⟨r, by omega, er⟩
    ·rintro ⟨r, hr, er⟩
     by_cases ri : r < i
     ·exact ⟨r, ri, er⟩
     ·have : r = i := by omega
      subst this
      obtain ⟨s, hs, es⟩ := (F.mem _).1 w
      exact ⟨s, hs, by rw [es, ← er]⟩
   ·rw [decide_eq_true w]
    refine Ev.pos rfl (Ev.pos (by omega) (ih (i + 1) _ (by omega) ⟨?_, fun y => ?_, by simp; omega⟩))
    ·rw [List.map_append, List.nodup_append]
     refine ⟨F.nd, by simp, fun x hx y hy => ?_⟩
     simp at hy
     intro e
     rw [e, hy] at hx
     exact w hx
    ·rw [List.map_append, List.mem_append, F.mem]
     constructor
     ·rintro (⟨r, hr, er⟩ | h)
      ·exact ⟨r, by omega, er⟩
      ·simp at h; exact ⟨i, by omega, h.symm⟩
     ·rintro ⟨r, hr, er⟩
      by_cases ri : r < i
      ·exact .inl ⟨r, ri, er⟩
      ·have : r = i := by omega
       subst this
       exact .inr (by simp; exact er.symm)
 exact loop n 0 [] (by omega) ⟨by simp, by simp, by simp⟩
end Go.Proofs.Ytjnbbnaidjodlaa.R
namespace Go.Proofs.Ytjnbbnaidjodlaa.Pure
theorem FnTurns : Go.Proofs.Ytjnbbnaidjodlaa.F.laws_FnTurns.Pure := Go.Proofs.Ytjnbbnaidjodlaa.R.FnTurns
end Go.Proofs.Ytjnbbnaidjodlaa.Pure
