/- Powers go round. -/
import Derived.Test.YtknkefjleinkkaaF1
import Derived.Test.YtknkefjleinkkaaF2
import Derived.Test.YtknkefjleinkkaaF3
import Derived.Test.YtknkefjleinkkaaF5
import Derived.Test.YtknkefjleinkkaaF6
import Derived.Test.YtknkefjleinkkaaF11
import Derived.Test.YtknkefjleinkkaaF15
import Derived.Test.YtknkefjleinkkaaF16
import Derived.Test.YtknkefjleinkkaaF18
import Derived.Test.YtknkefjleinkkaaF19
import Derived.Test.YtknkefjleinkkaaF23
import Derived.Test.YtknkefjleinkkaaF25
import Derived.Test.YtknkefjleinkkaaF27
import Derived.Test.YtknkefjleinkkaaF29
import Derived.Test.YtknkefjleinkkaaF30
import Derived.Test.YtknkefjleinkkaaF31
import Derived.Test.YtknkefjleinkkaaF32
import Derived.Test.YtknkefjleinkkaaF33
import Derived.Test.YtknkefjleinkkaaF34
set_option linter.unusedVariables false
set_option linter.unusedSimpArgs false
namespace Go.Proofs.Ytknkefjleinkkaa.Sm
open List
/-- f permutes the numbers below n. -/
def Bij (n : Nat) (f : Nat → Nat) : Prop := (∀ i, i < n → f i < n) ∧ (∀ i j, i < n → j < n → f i = f j → i = j)

/-- the list of a permutation -/
def pm (n : Nat) (f : Nat → Nat) : List Int := (List.range n).map (fun i => (f i : Int))

theorem pm_length (n : Nat) (f : Nat → Nat) : (pm n f).length = n := by simp [pm]

theorem pm_getD (n : Nat) (f : Nat → Nat) (i : Nat) (h : i < n) : (pm n f).getD i 0 = (f i : Int) := by
  simp [pm, List.getD, h]

theorem pm_ext {n : Nat} {f g : Nat → Nat} : pm n f = pm n g ↔ ∀ i, i < n → f i = g i := by
  constructor
  · intro h i hi
    have := pm_getD n f i hi
    rw [h, pm_getD n g i hi] at this
    omega
  · intro h
    unfold pm
    apply List.map_congr_left
    intro i hi
    rw [h i (by simpa using hi)]

theorem eq_pm (n : Nat) (f : Nat → Nat) (l : List Int) (hl : l.length = n) (h : ∀ i, i < n → l.getD i 0 = (f i : Int)) : l = pm n f := by
  apply List.ext_getElem
  · rw [hl, pm_length]
  · intro i h1 h2
    have := h i (by omega)
    have e := pm_getD n f i (by omega)
    simp only [List.getD_eq_getElem?_getD, List.getElem?_eq_getElem h1, Option.getD_some] at this
    simp only [List.getD_eq_getElem?_getD, List.getElem?_eq_getElem h2, Option.getD_some] at e
    rw [this, e]

/-- the permutation without its last point -/
def byp (n : Nat) (f : Nat → Nat) (i : Nat) : Nat := if f i = n then f n else f i

theorem byp_bij {n : Nat} {f : Nat → Nat} (h : Bij (n + 1) f) : Bij n (byp n f) := by
  obtain ⟨h1, h2⟩ := h
  constructor
  · intro i hi
    unfold byp
    have a := h1 i (by omega)
    have b := h1 n (by omega)
    split
    · rename_i e
      have : f n ≠ n := fun e2 => by have := h2 i n (by omega) (by omega) (by omega); omega
      omega
    · omega
  · intro i j hi hj e
    unfold byp at e
    by_cases e1 : f i = n <;> by_cases e2 : f j = n
    · exact h2 i j (by omega) (by omega) (by omega)
    · rw [if_pos e1, if_neg e2] at e
      have := h2 n j (by omega) (by omega) e; omega
    · rw [if_neg e1, if_pos e2] at e
      have := h2 i n (by omega) (by omega) e; omega
    · rw [if_neg e1, if_neg e2] at e
      exact h2 i j (by omega) (by omega) e

theorem surj {n : Nat} {f : Nat → Nat} (h : Bij n f) : ∀ y, y < n → ∃ x, x < n ∧ f x = y := by
  induction n generalizing f with
  | zero => intro y hy; omega
  | succ n ih =>
    have hb := ih (byp_bij h)
    obtain ⟨h1, h2⟩ := h
    intro y hy
    by_cases e : y = n
    · subst e
      by_cases e1 : f y = y
      · exact ⟨y, by omega, e1⟩
      · have b := h1 y (by omega)
        obtain ⟨x, hx, e2⟩ := hb (f y) (by omega)
        unfold byp at e2
        split at e2
        · rename_i e3; exact ⟨x, by omega, e3⟩
        · have := h2 x y (by omega) (by omega) e2; omega
    · obtain ⟨x, hx, e2⟩ := hb y (by omega)
      unfold byp at e2
      split at e2
      · exact ⟨n, by omega, e2⟩
      · exact ⟨x, by omega, e2⟩

/-- the inverse below n -/
def finv (n : Nat) (f : Nat → Nat) (y : Nat) : Nat := ((List.range n).find? (fun i => f i == y)).getD 0

theorem finv_spec {n : Nat} {f : Nat → Nat} (h : Bij n f) {y : Nat} (hy : y < n) : finv n f y < n ∧ f (finv n f y) = y := by
  obtain ⟨x, hx, e⟩ := surj h y hy
  unfold finv
  cases hf : (List.range n).find? (fun i => f i == y) with
  | none =>
    rw [List.find?_eq_none] at hf
    exact absurd (hf x (by simpa using hx)) (by simp [e])
  | some z =>
    have a := List.mem_of_find?_eq_some hf
    have b := List.find?_some hf
    simp at a b
    exact ⟨by simpa using a, by simpa using b⟩

theorem finv_left {n : Nat} {f : Nat → Nat} (h : Bij n f) {x : Nat} (hx : x < n) : finv n f (f x) = x := by
  have := finv_spec h (h.1 x hx)
  exact h.2 _ _ this.1 hx this.2

theorem finv_bij {n : Nat} {f : Nat → Nat} (h : Bij n f) : Bij n (finv n f) := by
  refine ⟨fun i hi => (finv_spec h hi).1, fun i j hi hj e => ?_⟩
  have a := (finv_spec h hi).2
  have b := (finv_spec h hj).2
  rw [e] at a
  omega

theorem id_bij (n : Nat) : Bij n (fun i => i) := ⟨fun _ h => h, fun _ _ _ _ e => e⟩

/-- f done m times -/
def it (f : Nat → Nat) : Nat → Nat → Nat
  | 0, x => x
  | m + 1, x => f (it f m x)

theorem it_add (f : Nat → Nat) (a b x : Nat) : it f (a + b) x = it f a (it f b x) := by
  induction a with
  | zero => simp [it]
  | succ a ih => rw [Nat.succ_add]; simp [it, ih]

theorem it_lt {n : Nat} {f : Nat → Nat} (h : Bij n f) (m : Nat) {x : Nat} (hx : x < n) : it f m x < n := by
  induction m with
  | zero => exact hx
  | succ m ih => exact h.1 _ ih

theorem it_inj {n : Nat} {f : Nat → Nat} (h : Bij n f) (m : Nat) {x y : Nat} (hx : x < n) (hy : y < n) (e : it f m x = it f m y) : x = y := by
  induction m with
  | zero => exact e
  | succ m ih => exact ih (h.2 _ _ (it_lt h m hx) (it_lt h m hy) e)

theorem it_bij {n : Nat} {f : Nat → Nat} (h : Bij n f) (m : Nat) : Bij n (it f m) :=
  ⟨fun _ hi => it_lt h m hi, fun _ _ hi hj e => it_inj h m hi hj e⟩

/-- pigeonhole: more than n numbers below n: two are equal -/
theorem pigeon (n : Nat) (g : Nat → Nat) (h : ∀ i, i ≤ n → g i < n) : ∃ i j, i < j ∧ j ≤ n ∧ g i = g j := by
  induction n generalizing g with
  | zero => exact absurd (h 0 (by omega)) (by omega)
  | succ n ih =>
    by_cases c : ∃ i, i < n + 1 ∧ g i = g (n + 1)
    · obtain ⟨i, hi, e⟩ := c; exact ⟨i, n + 1, hi, by omega, e⟩
    · have c' : ∀ i, i < n + 1 → g i ≠ g (n + 1) := fun i hi e => c ⟨i, hi, e⟩
      obtain ⟨i, j, hij, hj, e⟩ := ih (fun i => if g i = n then g (n + 1) else g i) (fun i hi => by
        have a := h i (by omega)
        have b := h (n + 1) (by omega)
        have d := c' i (by omega)
        show (if g i = n then g (n + 1) else g i) < n
        split <;> omega)
      refine ⟨i, j, hij, by omega, ?_⟩
      have di := c' i (by omega)
      have dj := c' j (by omega)
      by_cases e1 : g i = n <;> by_cases e2 : g j = n
      · omega
      · rw [if_pos e1, if_neg e2] at e; omega
      · rw [if_neg e1, if_pos e2] at e; omega
      · rw [if_neg e1, if_neg e2] at e; exact e

theorem it_back {n : Nat} {f : Nat → Nat} (h : Bij n f) {x : Nat} (hx : x < n) : ∃ m, 0 < m ∧ m ≤ n ∧ it f m x = x := by
  obtain ⟨i, j, hij, hj, e⟩ := pigeon n (fun m => it f m x) (fun m _ => it_lt h m hx)
  refine ⟨j - i, by omega, by omega, ?_⟩
  have : it f (i + (j - i)) x = it f i (it f (j - i) x) := it_add ..
  rw [show i + (j - i) = j by omega] at this
  exact (it_inj h i hx (it_lt h _ hx) (e.trans this)).symm

/-- the least positive m with p m, below a bound; else 0 -/
def least (p : Nat → Bool) (n : Nat) : Nat := ((List.range n).find? (fun m => p (m + 1))).elim 0 (· + 1)

theorem find_range_some {n : Nat} {p : Nat → Bool} {m : Nat} (h : (List.range n).find? p = some m) : m < n ∧ p m = true ∧ ∀ k, k < m → p k = false := by
  induction n generalizing m with
  | zero => simp at h
  | succ n ih =>
    rw [List.range_succ, List.find?_append] at h
    cases e : (List.range n).find? p with
    | some z =>
      rw [e] at h; simp at h; subst h
      have := ih e
      exact ⟨by omega, this.2⟩
    | none =>
      rw [e] at h
      simp at h
      obtain ⟨h1, rfl⟩ := h
      refine ⟨by omega, h1, fun k hk => ?_⟩
      rw [List.find?_eq_none] at e
      simpa using e k (by simpa using hk)

theorem least_spec {p : Nat → Bool} {n m : Nat} (hm : 0 < m) (hn : m ≤ n) (h : p m = true) :
    0 < least p n ∧ least p n ≤ m ∧ p (least p n) = true ∧ ∀ k, 0 < k → k < least p n → p k = false := by
  unfold least
  cases e : (List.range n).find? (fun m => p (m + 1)) with
  | none =>
    rw [List.find?_eq_none] at e
    have := e (m - 1) (by simp; omega)
    rw [show m - 1 + 1 = m by omega] at this
    exact absurd h this
  | some z =>
    obtain ⟨h1, h2, h3⟩ := find_range_some e
    simp only [Option.elim_some]
    refine ⟨by omega, ?_, h2, fun k hk hk2 => ?_⟩
    · apply Nat.le_of_not_lt
      intro hlt
      have := h3 (m - 1) (by omega)
      rw [show m - 1 + 1 = m by omega, h] at this
      cases this
    · have := h3 (k - 1) (by omega)
      rwa [show k - 1 + 1 = k by omega] at this

/-- how long the cycle of x is -/
def per (n : Nat) (f : Nat → Nat) (x : Nat) : Nat := least (fun m => it f m x == x) n

theorem per_spec {n : Nat} {f : Nat → Nat} (h : Bij n f) {x : Nat} (hx : x < n) :
    0 < per n f x ∧ per n f x ≤ n ∧ it f (per n f x) x = x ∧ ∀ k, 0 < k → k < per n f x → it f k x ≠ x := by
  obtain ⟨m, h1, h2, h3⟩ := it_back h hx
  obtain ⟨a, b, c, d⟩ := least_spec (p := fun m => it f m x == x) (n := n) h1 h2 (by simpa using h3)
  refine ⟨a, by unfold per; omega, ?_, fun k hk hk2 => by simpa using d k hk hk2⟩
  have := eq_of_beq c
  exact this

theorem it_mul_per {n : Nat} {f : Nat → Nat} (h : Bij n f) {x : Nat} (hx : x < n) (q : Nat) : it f (per n f x * q) x = x := by
  induction q with
  | zero => rfl
  | succ q ih => rw [Nat.mul_succ, it_add, (per_spec h hx).2.2.1, ih]

theorem it_mod_per {n : Nat} {f : Nat → Nat} (h : Bij n f) {x : Nat} (hx : x < n) (m : Nat) : it f m x = it f (m % per n f x) x := by
  conv => lhs; rw [← Nat.mod_add_div m (per n f x)]
  rw [it_add, it_mul_per h hx]

theorem it_eq_iff {n : Nat} {f : Nat → Nat} (h : Bij n f) {x : Nat} (hx : x < n) (m : Nat) : it f m x = x ↔ per n f x ∣ m := by
  obtain ⟨a, b, c, d⟩ := per_spec h hx
  constructor
  · intro e
    rw [it_mod_per h hx] at e
    apply Nat.dvd_of_mod_eq_zero
    apply Nat.eq_zero_of_not_pos
    intro hp
    exact d _ hp (Nat.mod_lt _ a) e
  · rintro ⟨q, rfl⟩
    exact it_mul_per h hx q

/-- the points that f leads to from x -/
def orb (f : Nat → Nat) (x y : Nat) : Prop := ∃ k, it f k x = y

def fact : Nat → Nat
  | 0 => 1
  | n + 1 => (n + 1) * fact n

theorem fact_pos (n : Nat) : 0 < fact n := by
  induction n with
  | zero => exact Nat.one_pos
  | succ n ih => exact Nat.mul_pos (by omega) ih

theorem dvd_fact {m n : Nat} (h0 : 0 < m) (h : m ≤ n) : m ∣ fact n := by
  induction n with
  | zero => omega
  | succ n ih =>
    by_cases c : m = n + 1
    · rw [c]; exact Nat.dvd_mul_right ..
    · exact Nat.dvd_trans (ih (by omega)) (Nat.dvd_mul_left ..)

/-- does f done m times move nothing? -/
def still (n : Nat) (f : Nat → Nat) (m : Nat) : Bool := (List.range n).all fun x => it f m x == x

theorem still_iff (n : Nat) (f : Nat → Nat) (m : Nat) : still n f m = true ↔ ∀ x, x < n → it f m x = x := by
  unfold still; simp

theorem still_per {n : Nat} {f : Nat → Nat} (h : Bij n f) (m : Nat) : still n f m = true ↔ ∀ x, x < n → per n f x ∣ m := by
  rw [still_iff]
  exact ⟨fun a x hx => (it_eq_iff h hx m).1 (a x hx), fun a x hx => (it_eq_iff h hx m).2 (a x hx)⟩

/-- how often until nothing is moved -/
def ord (n : Nat) (f : Nat → Nat) : Nat := least (still n f) (fact n)

theorem ord_spec {n : Nat} {f : Nat → Nat} (h : Bij n f) : 0 < ord n f ∧ ord n f ≤ fact n ∧ (∀ x, x < n → it f (ord n f) x = x) ∧ ∀ k, 0 < k → k < ord n f → still n f k = false := by
  have hs : still n f (fact n) = true := (still_per h _).2 fun x hx => by
    have p := per_spec h hx
    exact dvd_fact p.1 p.2.1
  obtain ⟨a, b, c, d⟩ := least_spec (p := still n f) (fact_pos n) (Nat.le_refl _) hs
  exact ⟨a, b, (still_iff n f _).1 c, d⟩

/-- no coloring that both keep tells i from j -/
def conn (n : Nat) (a b : Nat → Nat) (i j : Nat) : Prop := ∀ c : Nat → Nat, (∀ x, x < n → c (a x) = c x ∧ c (b x) = c x) → c i = c j

/-- o tells the least point that each point leads to -/
structure IsOrb (n : Nat) (a b o : Nat → Nat) : Prop where
  keep : ∀ x, x < n → o (a x) = o x ∧ o (b x) = o x
  le : ∀ x, x < n → o x ≤ x
  conn : ∀ x, x < n → conn n a b x (o x)

/-- a point's least one leads nowhere lower -/
theorem IsOrb.min {n : Nat} {a b o : Nat → Nat} (h : IsOrb n a b o) {x y : Nat} (hx : x < n) (hy : y < n) (hc : Sm.conn n a b x y) : o x ≤ y := by
  have := hc o h.keep
  rw [this]; exact h.le y hy

/-- keeps to the edges: zero at a dart, alike on a vertex, at most one more over an edge -/
structure Lip (n : Nat) (t s : Nat → Nat) (a : Nat) (D : Nat → Nat) : Prop where
  zero : D a = 0
  turn : ∀ x, x < n → D (t x) = D x
  edge : ∀ x, x < n → D x ≤ D (s x) + 1

structure IsDist (n : Nat) (t s : Nat → Nat) (a : Nat) (D : Nat → Nat) : Prop where
  lip : Lip n t s a D
  w0 : ∀ x, x < n → D x = 0 → orb t a x
  w1 : ∀ x m, x < n → D x = m + 1 → ∃ y, y < n ∧ orb t x y ∧ D (s y) = m

theorem Lip.orb {n : Nat} {t s : Nat → Nat} {a : Nat} {D : Nat → Nat} (h : Lip n t s a D) (ht : Bij n t) {x y : Nat} (hx : x < n) (o : orb t x y) : D y = D x := by
  obtain ⟨k, rfl⟩ := o
  induction k with
  | zero => rfl
  | succ k ih => show D (t (it t k x)) = D x; rw [h.turn _ (it_lt ht k hx), ih]

/-- nothing that keeps to the edges is greater -/
theorem IsDist.max {n : Nat} {t s : Nat → Nat} {a : Nat} {D E : Nat → Nat} (ht : Bij n t) (hs : Bij n s) (ha : a < n) (h : IsDist n t s a D) (e : Lip n t s a E) : ∀ x, x < n → E x ≤ D x := by
  have key : ∀ m x, x < n → D x = m → E x ≤ m := by
    intro m
    induction m with
    | zero =>
      intro x hx d
      have := e.orb ht ha (h.w0 x hx d)
      rw [this, e.zero]; exact Nat.le_refl _
    | succ m ih =>
      intro x hx d
      obtain ⟨y, hy, o, d2⟩ := h.w1 x m hx d
      have i := ih (s y) (hs.1 y hy) d2
      have j := e.edge y hy
      have k := e.orb ht hx o
      omega
  intro x hx
  exact key _ x hx rfl

/-- a renaming from one map to another one -/
structure Iso (n : Nat) (t s t' s' g : Nat → Nat) : Prop where
  bij : Bij n g
  et : ∀ x, x < n → t' (g x) = g (t x)
  es : ∀ x, x < n → s' (g x) = g (s x)

theorem Iso.symm {n : Nat} {t s t' s' g : Nat → Nat} (i : Iso n t s t' s' g) (ht : Bij n t) (hs : Bij n s) : Iso n t' s' t s (finv n g) := by
  refine ⟨finv_bij i.bij, fun x hx => ?_, fun x hx => ?_⟩
  · obtain ⟨a, ha, rfl⟩ := surj i.bij x hx
    rw [finv_left i.bij ha, i.et a ha, finv_left i.bij (ht.1 a ha)]
  · obtain ⟨a, ha, rfl⟩ := surj i.bij x hx
    rw [finv_left i.bij ha, i.es a ha, finv_left i.bij (hs.1 a ha)]
end Go.Proofs.Ytknkefjleinkkaa.Sm
namespace Go.Proofs.Ytknkefjleinkkaa.R
open Go.RowKit Go.Proofs.YtknkefjleinkkaaW.PrintWords Go.Proofs.YtknkefjleinkkaaW.PrintLast Go.Proofs.YtknkefjleinkkaaW.PrintMore Go.Proofs.Ytknkefjleinkkaa.F Go.Proofs.Ytknkefjleinkkaa.Sm
theorem Ev.pos {α : Type} {c : Prop} [Decidable c] {A B : Nat → Option α} {r : α} (h : c) (k : Ev A r) : Ev (fun n => if c then A n else B n) r := by
  simp only [if_pos h]; exact k

theorem Ev.neg {α : Type} {c : Prop} [Decidable c] {A B : Nat → Option α} {r : α} (h : ¬ c) (k : Ev B r) : Ev (fun n => if c then A n else B n) r := by
  simp only [if_neg h]; exact k

theorem Ev.bind1 {α β : Type} {g : Nat → Option α} {f : Nat → α → Option β} {a : α} {r : β} (h : Ev g a) (k : Ev (fun n => f n a) r) : Ev (fun n => (g n).bind (f n)) r := Ev.bind h k

theorem Ev.some1 {α β : Type} {f : Nat → α → Option β} {a : α} {r : β} (k : Ev (fun n => f n a) r) : Ev (fun n => (some a).bind (f n)) r := k

theorem wrap_nat {i : Nat} (h : i < 9223372036854775807) : wrap64 ((i : Int) + 1) = ((i + 1 : Nat) : Int) := by unfold wrap64; omega

theorem wrap_in {n : Int} (h1 : -9223372036854775808 ≤ n) (h2 : n ≤ 9223372036854775807) : wrap64 n = n := by unfold wrap64; omega

theorem rd_get {l : List Int} {i : Nat} (h : i < l.length) : rd l (i : Int) = l[i] := by
  unfold rd; simp [h]

theorem rd_pm {n : Nat} {f : Nat → Nat} {i : Nat} (h : i < n) : rd (pm n f) (i : Int) = (f i : Int) := by
  unfold rd; exact pm_getD n f i h

/-- a list that is a permutation -/
def IsPerm (n : Nat) (l : List Int) (f : Nat → Nat) : Prop := 1 ≤ n ∧ n ≤ 12 ∧ Bij n f ∧ l = pm n f

theorem valid_iff (l : List Int) : impl_PermValid.validB l = true ↔ ∃ f, IsPerm l.length l f := by
  unfold impl_PermValid.validB
  simp only [Bool.and_eq_true, decide_eq_true_eq, List.all_eq_true, List.mem_range]
  constructor
  · rintro ⟨⟨h1, h2⟩, h3⟩
    have h3' : ∀ i, i < l.length → 0 ≤ rd l i ∧ rd l i < l.length ∧ ∀ j, j < i → rd l j ≠ rd l i := by
      intro i hi
      have := h3 i hi
      unfold impl_PermValid.okAt at this
      simp only [Bool.and_eq_true, decide_eq_true_eq, Bool.not_eq_true', List.contains_eq_mem, decide_eq_false_iff_not] at this
      refine ⟨this.1.1, this.1.2, fun j hj e => this.2 ?_⟩
      rw [← e, rd_get (show j < l.length by omega)]
      rw [List.mem_iff_getElem]
      exact ⟨j, by simp; omega, by simp⟩
    refine ⟨fun i => (rd l i).toNat, h1, h2, ⟨fun i hi => by have := h3' i hi; show (rd l i).toNat < _; omega, fun i j hi hj e => ?_⟩, ?_⟩
    · have a := h3' i hi
      have b := h3' j hj
      have e' : (rd l i).toNat = (rd l j).toNat := e
      rcases Nat.lt_trichotomy i j with c | c | c
      · exact (b.2.2 i c (by omega)).elim
      · exact c
      · exact (a.2.2 j c (by omega)).elim
    · refine eq_pm _ _ _ rfl fun i hi => ?_
      have := h3' i hi
      show l.getD i 0 = (((rd l i).toNat : Nat) : Int)
      have e : l.getD i 0 = rd l i := rfl
      omega
  · rintro ⟨f, h1, h2, hf, e⟩
    refine ⟨⟨h1, h2⟩, fun i hi => ?_⟩
    have r : ∀ j, j < l.length → rd l j = (f j : Int) := fun j hj => by
      have := rd_pm (n := l.length) (f := f) hj
      rwa [← e] at this
    unfold impl_PermValid.okAt
    simp only [Bool.and_eq_true, decide_eq_true_eq, Bool.not_eq_true', List.contains_eq_mem, decide_eq_false_iff_not]
    refine ⟨⟨by rw [r i hi]; omega, by rw [r i hi]; have := hf.1 i hi; omega⟩, fun hm => ?_⟩
    rw [List.mem_iff_getElem] at hm
    obtain ⟨j, hj, ej⟩ := hm
    have hj' : j < i := by simp at hj; omega
    have : l[j]'(by omega) = rd l i := by simpa using ej
    rw [← rd_get (show j < l.length by omega), r i hi, r j (by omega)] at this
    have := hf.2 j i (by omega) hi (by omega)
    omega

theorem implValid_ev (l : List Int) : Ev (fun _ => impl_PermValid.f l) (impl_PermValid.validB l) := Ev.now _

/-- the reference's look: up to i all is well -/
theorem specValid_ev (l : List Int) (hl : l.length ≤ 4294967296) : Ev (fun k => spec_PermValid.f k l) (impl_PermValid.validB l) := by
  have e0 : ∀ (a b c : Int), spec_l6In.f a b c = some (decide (b ≤ a) && decide (a ≤ c)) := by
    intro a b c
    unfold spec_l6In.f
    by_cases h : b ≤ a
    · rw [if_pos h]; simp [h]
    · rw [if_neg h]; simp [h]
  -- the inner loop
  have inner : ∀ d i j, i < l.length → j + d = i → (∀ m, m < j → rd l m ≠ rd l i) → ∀ r, ((∀ m, m < i → rd l m ≠ rd l i) → Ev (fun k => spec_PermValid.l0 k l ((i + 1 : Nat) : Int)) r) → ((∃ m, m < i ∧ rd l m = rd l i) → r = false) → Ev (fun k => spec_PermValid.l1 k l (i : Int) (j : Int)) r := by
    intro d
    induction d with
    | zero =>
      intro i j hi hj hm r h1 h2
      refine Ev.step (f := fun k => spec_PermValid.l0 k l ((i + 1 : Nat) : Int)) (fun k => by rw [spec_PermValid.l1, if_neg (by omega), wrap_nat (by omega)]) ?_
      exact h1 (fun m hmi => hm m (by omega))
    | succ d ih =>
      intro i j hi hj hm r h1 h2
      by_cases c : rd l (j : Int) = rd l (i : Int)
      · have := h2 ⟨j, by omega, c⟩
        subst this
        refine Ev.step (f := fun k => some false) (fun k => by
          rw [spec_PermValid.l1, if_pos (by omega), if_pos (by omega), if_pos (by omega), if_pos (by omega), if_pos (by omega), if_pos c]) (Ev.now _)
      · refine Ev.step (f := fun k => spec_PermValid.l1 k l (i : Int) ((j + 1 : Nat) : Int)) (fun k => by
          rw [spec_PermValid.l1, if_pos (by omega), if_pos (by omega), if_pos (by omega), if_pos (by omega), if_pos (by omega), if_neg c, wrap_nat (by omega)]) ?_
        refine ih i (j + 1) hi (by omega) (fun m hm' => ?_) r h1 h2
        by_cases e : m = j
        · subst e; exact c
        · exact hm m (by omega)
  have outer : ∀ d i, i + d = l.length → (∀ m, m < i → impl_PermValid.okAt l m = true) → Ev (fun k => spec_PermValid.l0 k l (i : Int)) (impl_PermValid.validB l) := by
    intro d
    induction d with
    | zero =>
      intro i hi hm
      have e : impl_PermValid.validB l = (decide ((1 : Int) ≤ (l.length : Int)) && decide ((l.length : Int) ≤ 12)) := by
        unfold impl_PermValid.validB
        have : (List.range l.length).all (impl_PermValid.okAt l) = true := by
          rw [List.all_eq_true]; intro m hm'; exact hm m (by have := List.mem_range.1 hm'; omega)
        rw [this]
        rw [Bool.and_true]
        congr 1
        · simp; omega
        · simp; omega
      refine Ev.step (f := fun _ => some (impl_PermValid.validB l)) (fun k => by rw [spec_PermValid.l0, if_neg (by omega), e0, e]; rfl) (Ev.now _)
    | succ d ih =>
      intro i hi hm
      have hil : i < l.length := by omega
      have fail : impl_PermValid.okAt l i = false → impl_PermValid.validB l = false := impl_PermValid.valid_fail l i hil
      have ew : wrap64 ((l.length : Int) - 1) = (l.length : Int) - 1 := wrap_in (by omega) (by omega)
      by_cases c : 0 ≤ rd l (i : Int) ∧ rd l (i : Int) ≤ (l.length : Int) - 1
      · refine Ev.step (f := fun k => spec_PermValid.l1 k l (i : Int) ((0 : Nat) : Int)) (fun k => by
          rw [spec_PermValid.l0, if_pos (by omega), if_pos (by omega), e0, ew]
          simp only [Option.bind_some]
          rw [if_pos (by simp [c.1, c.2])]; rfl) ?_
        refine inner i i 0 hil (by omega) (fun m hm' => absurd hm' (by omega)) _ (fun hd => ?_) (fun hd => ?_)
        · refine ih (i + 1) (by omega) (fun m hm' => ?_)
          by_cases e : m = i
          · subst e
            unfold impl_PermValid.okAt
            simp only [Bool.and_eq_true, decide_eq_true_eq, Bool.not_eq_true', List.contains_eq_mem, decide_eq_false_iff_not]
            refine ⟨⟨c.1, by omega⟩, fun hx => ?_⟩
            rw [List.mem_iff_getElem] at hx
            obtain ⟨j, hj, ej⟩ := hx
            have hj' : j < m := by simp at hj; omega
            have : l[j]'(by omega) = rd l m := by simpa using ej
            rw [← rd_get (show j < l.length by omega)] at this
            exact hd j hj' this
          · exact hm m (by omega)
        · obtain ⟨m, hmi, em⟩ := hd
          apply fail
          unfold impl_PermValid.okAt
          have : (l.take i).contains (rd l i) = true := by
            rw [List.contains_eq_mem, decide_eq_true_eq, ← em, rd_get (show m < l.length by omega), List.mem_iff_getElem]
            exact ⟨m, by simp; omega, by simp⟩
          simp only [this, Bool.not_true, Bool.and_false]
      · have : impl_PermValid.validB l = false := by
          apply fail
          unfold impl_PermValid.okAt
          by_cases c1 : 0 ≤ rd l (i : Int)
          · have : ¬ rd l (i : Int) < l.length := by omega
            simp [this]
          · simp [c1]
        rw [this]
        refine Ev.step (f := fun k => some false) (fun k => by
          rw [spec_PermValid.l0, if_pos (by omega), if_pos (by omega), e0, ew]
          simp only [Option.bind_some]
          rw [if_neg]
          simp only [Bool.and_eq_true, decide_eq_true_eq]
          exact c) (Ev.now _)
  unfold spec_PermValid.f
  exact outer l.length 0 (by omega) (fun m hm => absurd hm (by omega))

theorem rd_set {s : List Int} {a b : Nat} {v : Int} (h : a < s.length) : rd (s.set a v) (b : Int) = if a = b then v else rd s (b : Int) := by
  unfold rd
  simp only [Int.toNat_natCast, List.getD_eq_getElem?_getD, List.getElem?_set]
  by_cases e : a = b
  · subst e; simp [h]
  · simp [e]

theorem eq_pm' {n : Nat} {f : Nat → Nat} {l : List Int} (hl : l.length = n) (h : ∀ i, i < n → rd l (i : Int) = (f i : Int)) : l = pm n f :=
  eq_pm n f l hl fun i hi => by have := h i hi; unfold rd at this; simpa using this

theorem sameInts_loop (a b : List Int) (hl : a.length = b.length) (hb : a.length ≤ 4294967296) : ∀ d i, i + d = a.length → Ev (fun k => laws_sameInts.l0 k a b (i : Int)) (decide (a.drop i = b.drop i)) := by
  intro d
  induction d with
  | zero =>
    intro i hi
    refine Ev.step (f := fun _ => some true) (fun k => by rw [laws_sameInts.l0, if_neg (by omega)]) ?_
    rw [List.drop_of_length_le (by omega), List.drop_of_length_le (by omega)]
    exact Ev.now _
  | succ d ih =>
    intro i hi
    have ha : i < a.length := by omega
    have hb' : i < b.length := by omega
    rw [List.drop_eq_getElem_cons ha, List.drop_eq_getElem_cons hb']
    by_cases c : a[i] = b[i]
    · refine Ev.step (f := fun k => laws_sameInts.l0 k a b ((i + 1 : Nat) : Int)) (fun k => by
        rw [laws_sameInts.l0, if_pos (by omega), if_pos (by omega), if_pos (by omega), rd_get ha, rd_get hb', if_pos c, wrap_nat (by omega)]) ?_
      have e : decide (a[i] :: a.drop (i + 1) = b[i] :: b.drop (i + 1)) = decide (a.drop (i + 1) = b.drop (i + 1)) := by
        simp only [List.cons.injEq, c, true_and]
      rw [e]
      exact ih (i + 1) (by omega)
    · refine Ev.step (f := fun k => some false) (fun k => by
        rw [laws_sameInts.l0, if_pos (by omega), if_pos (by omega), if_pos (by omega), rd_get ha, rd_get hb', if_neg c]) ?_
      have : decide (a[i] :: a.drop (i + 1) = b[i] :: b.drop (i + 1)) = false := by
        simp only [List.cons.injEq, c, false_and, decide_false]
      rw [this]
      exact Ev.now _

theorem sameInts_ev {a b : List Int} (hb : a.length ≤ 4294967296) : Ev (fun k => laws_sameInts.f k a b) (decide (a = b)) := by
  unfold laws_sameInts.f
  by_cases c : a.length = b.length
  · refine Ev.pos (by omega) ?_
    exact sameInts_loop a b c hb a.length 0 (by omega)
  · have : decide (a = b) = false := by simp; intro e; exact c (by rw [e])
    rw [this]
    exact Ev.neg (by omega) (Ev.now _)

theorem equal_loop (a b : List Int) (hl : a.length = b.length) (hb : a.length ≤ 4294967296) : ∀ d i, i + d = a.length → Ev (fun k => slices_Equal_int_int.l0 k a b (a.length : Int) (i : Int)) (decide (a.drop i = b.drop i)) := by
  intro d
  induction d with
  | zero =>
    intro i hi
    refine Ev.step (f := fun _ => some true) (fun k => by rw [slices_Equal_int_int.l0, if_neg (by omega)]) ?_
    rw [List.drop_of_length_le (by omega), List.drop_of_length_le (by omega)]
    exact Ev.now _
  | succ d ih =>
    intro i hi
    have ha : i < a.length := by omega
    have hb' : i < b.length := by omega
    rw [List.drop_eq_getElem_cons ha, List.drop_eq_getElem_cons hb']
    by_cases c : a[i] = b[i]
    · refine Ev.step (f := fun k => slices_Equal_int_int.l0 k a b (a.length : Int) ((i + 1 : Nat) : Int)) (fun k => by
        rw [slices_Equal_int_int.l0, if_pos (by omega), if_pos (by omega), if_pos (by omega), if_pos (by omega), rd_get ha, rd_get hb', if_pos c, wrap_nat (by omega)]) ?_
      have e : decide (a[i] :: a.drop (i + 1) = b[i] :: b.drop (i + 1)) = decide (a.drop (i + 1) = b.drop (i + 1)) := by
        simp only [List.cons.injEq, c, true_and]
      rw [e]
      exact ih (i + 1) (by omega)
    · refine Ev.step (f := fun k => some false) (fun k => by
        rw [slices_Equal_int_int.l0, if_pos (by omega), if_pos (by omega), if_pos (by omega), if_pos (by omega), rd_get ha, rd_get hb', if_neg c]) ?_
      have : decide (a[i] :: a.drop (i + 1) = b[i] :: b.drop (i + 1)) = false := by
        simp only [List.cons.injEq, c, false_and, decide_false]
      rw [this]
      exact Ev.now _

theorem equal_ev {a b : List Int} (hb : a.length ≤ 4294967296) : Ev (fun k => slices_Equal_int_int.f k a b) (decide (a = b)) := by
  unfold slices_Equal_int_int.f
  by_cases c : a.length = b.length
  · refine Ev.pos (by omega) ?_
    exact equal_loop a b c hb a.length 0 (by omega)
  · have : decide (a = b) = false := by simp; intro e; exact c (by rw [e])
    rw [this]
    exact Ev.neg (by omega) (Ev.now _)

theorem still_ev {n : Nat} (hn : n ≤ 1000) : Ev (fun k => impl_still.f k (n : Int)) (pm n fun i => i) := by
  have loop : ∀ d i (s : List Int), i + d = n → s.length = n → (∀ j, j < i → rd s (j : Int) = (j : Int)) → Ev (fun k => impl_still.l0 k s (n : Int) (i : Int)) (pm n fun i => i) := by
    intro d
    induction d with
    | zero =>
      intro i s hi hs h
      refine Ev.step (f := fun _ => some s) (fun k => by rw [impl_still.l0, if_neg (by omega)]) ?_
      rw [eq_pm' (f := fun i => i) hs (fun j hj => h j (by omega))]
      exact Ev.now _
    | succ d ih =>
      intro i s hi hs h
      refine Ev.step (f := fun k => impl_still.l0 k (s.set i (i : Int)) (n : Int) ((i + 1 : Nat) : Int)) (fun k => by
        rw [impl_still.l0, if_pos (by omega), if_pos (by omega), if_pos (by omega), wrap_nat (by omega)]; rfl) ?_
      refine ih (i + 1) _ (by omega) (by simp [hs]) (fun j hj => ?_)
      rw [rd_set (by omega)]
      by_cases e : i = j
      · rw [if_pos e, e]
      · rw [if_neg e]; exact h j (by omega)
  unfold impl_still.f
  refine Ev.pos (by omega) (Ev.pos (by omega) ?_)
  have := loop n 0 (List.replicate n 0) (by omega) (by simp) (fun j hj => absurd hj (by omega))
  simpa using this

theorem l1Same_ev {n : Nat} (hn : n ≤ 1000) : Ev (fun k => spec_l1Same.f k (n : Int)) (pm n fun i => i) := by
  have loop : ∀ d i, i + d = n → Ev (fun k => spec_l1Same.l0 k (n : Int) (pm i fun i => i) (i : Int)) (pm n fun i => i) := by
    intro d
    induction d with
    | zero =>
      intro i hi
      have e : i = n := by omega
      subst e
      exact Ev.step (f := fun _ => some (pm i fun i => i)) (fun k => by rw [spec_l1Same.l0, if_neg (by omega)]) (Ev.now _)
    | succ d ih =>
      intro i hi
      refine Ev.step (f := fun k => spec_l1Same.l0 k (n : Int) (pm (i + 1) fun i => i) ((i + 1 : Nat) : Int)) (fun k => by
        rw [spec_l1Same.l0, if_pos (by omega), if_pos (by rw [pm_length]; omega), wrap_nat (by omega)]
        simp [pm, List.range_succ]) (ih (i + 1) (by omega))
  unfold spec_l1Same.f
  exact loop n 0 (by omega)

theorem mul_ev {n : Nat} {f g : Nat → Nat} (hn : n ≤ 1000) (hf : ∀ i, i < n → f i < n) : Ev (fun k => impl_mul.f k (pm n f) (pm n g)) (pm n fun i => g (f i)) := by
  have loop : ∀ d i (s : List Int), i + d = n → s.length = n → (∀ j, j < i → rd s (j : Int) = (g (f j) : Int)) → Ev (fun k => impl_mul.l0 k (pm n g) s (pm n f) (n : Int) (i : Int)) (pm n fun i => g (f i)) := by
    intro d
    induction d with
    | zero =>
      intro i s hi hs h
      refine Ev.step (f := fun _ => some s) (fun k => by rw [impl_mul.l0, if_neg (by omega)]) ?_
      rw [eq_pm' (f := fun i => g (f i)) hs (fun j hj => h j (by omega))]
      exact Ev.now _
    | succ d ih =>
      intro i s hi hs h
      have hfi := hf i (by omega)
      refine Ev.step (f := fun k => impl_mul.l0 k (pm n g) (s.set i (g (f i) : Int)) (pm n f) (n : Int) ((i + 1 : Nat) : Int)) (fun k => by
        rw [impl_mul.l0, if_pos (by omega), if_pos (by omega), if_pos (by rw [pm_length]; omega), rd_pm (by omega), if_pos (by omega), if_pos (by rw [pm_length]; omega), if_pos (by omega), wrap_nat (by omega), rd_pm hfi]; rfl) ?_
      refine ih (i + 1) _ (by omega) (by simp [hs]) (fun j hj => ?_)
      rw [rd_set (by omega)]
      by_cases e : i = j
      · rw [if_pos e, e]
      · rw [if_neg e]; exact h j (by omega)
  unfold impl_mul.f
  simp only [pm_length]
  refine Ev.pos (by omega) (Ev.pos (by omega) ?_)
  have := loop n 0 (List.replicate n 0) (by omega) (by simp) (fun j hj => absurd hj (by omega))
  simpa using this

theorem l1Mul_ev {n : Nat} {f g : Nat → Nat} (hn : n ≤ 1000) (hf : ∀ i, i < n → f i < n) : Ev (fun k => spec_l1Mul.f k (pm n f) (pm n g)) (pm n fun i => g (f i)) := by
  have loop : ∀ d i, i + d = n → Ev (fun k => spec_l1Mul.l0 k (pm n f) (pm n g) (pm i fun i => g (f i)) (i : Int)) (pm n fun i => g (f i)) := by
    intro d
    induction d with
    | zero =>
      intro i hi
      have e : i = n := by omega
      subst e
      exact Ev.step (f := fun _ => some (pm i fun i => g (f i))) (fun k => by rw [spec_l1Mul.l0, if_neg (by rw [pm_length]; omega)]) (Ev.now _)
    | succ d ih =>
      intro i hi
      have hfi := hf i (by omega)
      refine Ev.step (f := fun k => spec_l1Mul.l0 k (pm n f) (pm n g) (pm (i + 1) fun i => g (f i)) ((i + 1 : Nat) : Int)) (fun k => by
        rw [spec_l1Mul.l0, if_pos (by rw [pm_length]; omega), if_pos (by omega), rd_pm (by omega), if_pos (by omega), if_pos (by rw [pm_length]; omega), if_pos (by rw [pm_length]; omega), wrap_nat (by omega), rd_pm hfi]
        simp [pm, List.range_succ]) (ih (i + 1) (by omega))
  unfold spec_l1Mul.f
  exact loop n 0 (by omega)

theorem back_end {n : Nat} {f : Nat → Nat} (hf : Bij n f) {s : List Int} (hs : s.length = n) (h : ∀ j, j < n → rd s (f j : Int) = (j : Int)) : s = pm n (finv n f) := by
  refine eq_pm' hs fun y hy => ?_
  obtain ⟨h1, h2⟩ := finv_spec hf hy
  have := h _ h1
  rwa [h2] at this

theorem back_step {n : Nat} {f : Nat → Nat} (hf : Bij n f) {s : List Int} (hs : s.length = n) {i : Nat} (hi : i < n) (h : ∀ j, j < i → rd s (f j : Int) = (j : Int)) : ∀ j, j < i + 1 → rd (s.set (f i) (i : Int)) (f j : Int) = (j : Int) := by
  intro j hj
  rw [rd_set (by have := hf.1 i hi; omega)]
  by_cases e : i = j
  · subst e; rw [if_pos rfl]
  · rw [if_neg (fun d => e (hf.2 i j hi (by omega) d))]; exact h j (by omega)

theorem back_ev {n : Nat} {f : Nat → Nat} (hn : n ≤ 1000) (hf : Bij n f) : Ev (fun k => impl_back.f k (pm n f)) (pm n (finv n f)) := by
  have loop : ∀ d i (s : List Int), i + d = n → s.length = n → (∀ j, j < i → rd s (f j : Int) = (j : Int)) → Ev (fun k => impl_back.l0 k s (pm n f) (n : Int) (i : Int)) (pm n (finv n f)) := by
    intro d
    induction d with
    | zero =>
      intro i s hi hs h
      refine Ev.step (f := fun _ => some s) (fun k => by rw [impl_back.l0, if_neg (by omega)]) ?_
      rw [back_end hf hs (fun j hj => h j (by omega))]
      exact Ev.now _
    | succ d ih =>
      intro i s hi hs h
      have hfi := hf.1 i (by omega)
      refine Ev.step (f := fun k => impl_back.l0 k (s.set (f i) (i : Int)) (pm n f) (n : Int) ((i + 1 : Nat) : Int)) (fun k => by
        rw [impl_back.l0, if_pos (by omega), if_pos (by omega), if_pos (by rw [pm_length]; omega), rd_pm (by omega), if_pos (by omega), if_pos (by omega), wrap_nat (by omega)]; rfl) ?_
      exact ih (i + 1) _ (by omega) (by simp [hs]) (back_step hf hs (by omega) h)
  unfold impl_back.f
  simp only [pm_length]
  refine Ev.pos (by omega) (Ev.pos (by omega) ?_)
  have := loop n 0 (List.replicate n 0) (by omega) (by simp) (fun j hj => absurd hj (by omega))
  simpa using this

theorem l1Back_ev {n : Nat} {f : Nat → Nat} (hn : n ≤ 1000) (hf : Bij n f) : Ev (fun k => spec_l1Back.f k (pm n f)) (pm n (finv n f)) := by
  have loop : ∀ d i (s : List Int), i + d = n → s.length = n → (∀ j, j < i → rd s (f j : Int) = (j : Int)) → Ev (fun k => spec_l1Back.l0 k (pm n f) s (i : Int)) (pm n (finv n f)) := by
    intro d
    induction d with
    | zero =>
      intro i s hi hs h
      refine Ev.step (f := fun _ => some s) (fun k => by rw [spec_l1Back.l0, if_neg (by rw [pm_length]; omega)]) ?_
      rw [back_end hf hs (fun j hj => h j (by omega))]
      exact Ev.now _
    | succ d ih =>
      intro i s hi hs h
      have hfi := hf.1 i (by omega)
      refine Ev.step (f := fun k => spec_l1Back.l0 k (pm n f) (s.set (f i) (i : Int)) ((i + 1 : Nat) : Int)) (fun k => by
        rw [spec_l1Back.l0, if_pos (by rw [pm_length]; omega), if_pos (by omega), rd_pm (by omega), if_pos (by omega), if_pos (by omega), wrap_nat (by omega)]; rfl) ?_
      exact ih (i + 1) _ (by omega) (by simp [hs]) (back_step hf hs (by omega) h)
  unfold spec_l1Back.f
  simp only [pm_length]
  refine Ev.pos (by omega) (Ev.pos (by omega) ?_)
  have := loop n 0 (List.replicate n 0) (by omega) (by simp) (fun j hj => absurd hj (by omega))
  simpa using this

/-- two lists that are permutations of as many points -/
def both (a b : List Int) : Bool := impl_PermValid.validB a && impl_PermValid.validB b && decide (a.length = b.length)

theorem both_iff (a b : List Int) : both a b = true ↔ ∃ n f g, IsPerm n a f ∧ IsPerm n b g := by
  unfold both
  simp only [Bool.and_eq_true, decide_eq_true_eq, valid_iff]
  constructor
  · rintro ⟨⟨⟨f, hf⟩, g, hg⟩, e⟩
    rw [← e] at hg
    exact ⟨_, f, g, hf, hg⟩
  · rintro ⟨n, f, g, hf, hg⟩
    have e1 : a.length = n := by rw [hf.2.2.2, pm_length]
    have e2 : b.length = n := by rw [hg.2.2.2, pm_length]
    rw [e1, e2]
    exact ⟨⟨⟨f, hf⟩, g, hg⟩, rfl⟩

/-- the product, or no answer -/
noncomputable def mulR (a b : List Int) : List Int × Bool := if both a b = true then (a.map (fun x => rd b x), true) else ([], false)

theorem pm_map {n : Nat} {f g : Nat → Nat} (hf : ∀ i, i < n → f i < n) : (pm n f).map (fun x => rd (pm n g) x) = pm n fun i => g (f i) := by
  unfold pm
  rw [List.map_map]
  apply List.map_congr_left
  intro i hi
  show rd (pm n g) ((f i : Nat) : Int) = _
  rw [rd_pm (hf i (by simpa using hi))]

theorem implMul_ev (a b : List Int) : Ev (fun k => impl_PermMul.f k a b) (mulR a b) := by
  unfold impl_PermMul.f mulR
  refine Ev.bind1 (implValid_ev a) ?_
  by_cases c : both a b = true
  · rw [if_pos c]
    obtain ⟨n, f, g, hf, hg⟩ := (both_iff a b).1 c
    have c1 : impl_PermValid.validB a = true := by unfold both at c; simp only [Bool.and_eq_true] at c; exact c.1.1
    have c2 : impl_PermValid.validB b = true := by unfold both at c; simp only [Bool.and_eq_true] at c; exact c.1.2
    have c3 : a.length = b.length := by unfold both at c; simp only [Bool.and_eq_true, decide_eq_true_eq] at c; exact c.2
    refine Ev.pos c1 (Ev.bind1 (implValid_ev b) (Ev.pos c2 (Ev.pos (by omega) ?_)))
    rw [hf.2.2.2, hg.2.2.2, pm_map hf.2.2.1.1]
    exact Ev.bind1 (mul_ev (by have := hf.2.1; omega) hf.2.2.1.1) (Ev.now _)
  · rw [if_neg c]
    by_cases c1 : impl_PermValid.validB a = true
    · refine Ev.pos c1 (Ev.bind1 (implValid_ev b) ?_)
      by_cases c2 : impl_PermValid.validB b = true
      · refine Ev.pos c2 (Ev.neg (fun e => c ?_) (Ev.now _))
        unfold both
        have : a.length = b.length := by omega
        simp [c1, c2, this]
      · exact Ev.neg c2 (Ev.now _)
    · exact Ev.neg c1 (Ev.now _)

theorem finv_congr {n : Nat} {f g : Nat → Nat} (h : ∀ i, i < n → f i = g i) : finv n f = finv n g := by
  funext y
  unfold finv
  congr 1
  have : ∀ l : List Nat, (∀ i, i ∈ l → i < n) → l.find? (fun i => f i == y) = l.find? (fun i => g i == y) := by
    intro l
    induction l with
    | nil => intro _; rfl
    | cons a l ih => intro hl; simp only [List.find?_cons]; rw [h a (hl a (by simp)), ih (fun i hi => hl i (by simp [hi]))]
  exact this _ (fun i hi => by simpa using hi)

theorem isPerm_rd {n : Nat} {a : List Int} {f : Nat → Nat} (h : IsPerm n a f) : ∀ i, i < n → (rd a (i : Int)).toNat = f i := by
  intro i hi; rw [h.2.2.2, rd_pm hi]; simp

theorem isPerm_len {n : Nat} {a : List Int} {f : Nat → Nat} (h : IsPerm n a f) : a.length = n := by rw [h.2.2.2, pm_length]

theorem isPerm_valid {n : Nat} {a : List Int} {f : Nat → Nat} (h : IsPerm n a f) : impl_PermValid.validB a = true :=
  (valid_iff a).2 ⟨f, by rw [isPerm_len h]; exact h⟩

theorem fact_small : ∀ n, n < 13 → fact n ≤ 479001600 := by decide

theorem still_pm {n : Nat} {f : Nat → Nat} {m : Nat} : (pm n (it f m) = pm n fun i => i) ↔ Sm.still n f m = true := by
  rw [pm_ext, still_iff]

noncomputable def orderR (a : List Int) : Int := if impl_PermValid.validB a = true then (ord a.length (fun i => (rd a (i : Int)).toNat) : Int) else -1

theorem it_congr {n : Nat} {f g : Nat → Nat} (hf : Bij n f) (h : ∀ i, i < n → f i = g i) (m : Nat) {x : Nat} (hx : x < n) : it f m x = it g m x := by
  induction m with
  | zero => rfl
  | succ m ih => show f (it f m x) = g (it g m x); rw [← ih, h _ (it_lt hf m hx)]

theorem ord_congr {n : Nat} {f g : Nat → Nat} (hf : Bij n f) (h : ∀ i, i < n → f i = g i) : ord n f = ord n g := by
  unfold ord least
  congr 1
  have : (fun m => Sm.still n f (m + 1)) = fun m => Sm.still n g (m + 1) := by
    funext m
    rw [Bool.eq_iff_iff, still_iff, still_iff]
    exact ⟨fun e x hx => by rw [← it_congr hf h _ hx]; exact e x hx, fun e x hx => by rw [it_congr hf h _ hx]; exact e x hx⟩
  rw [this]

theorem orderR_perm {n : Nat} {a : List Int} {f : Nat → Nat} (h : IsPerm n a f) : orderR a = (ord n f : Int) := by
  unfold orderR
  rw [if_pos (isPerm_valid h), isPerm_len h]
  rw [ord_congr h.2.2.1 (fun i hi => (isPerm_rd h i hi).symm)]

theorem clone_ev {a : List Int} (h : a.length ≤ 1048576) : Ev (fun _ => slices_Clone_int_int.f a) a := by
  unfold slices_Clone_int_int.f
  exact Ev.pos (by omega) (Ev.now _)

theorem implOrder_ev (a : List Int) : Ev (fun k => impl_PermOrder.f k a) (orderR a) := by
  unfold impl_PermOrder.f
  refine Ev.bind1 (implValid_ev a) ?_
  by_cases c : impl_PermValid.validB a = true
  · obtain ⟨f, hf⟩ := (valid_iff a).1 c
    obtain ⟨n, en⟩ : ∃ n, n = a.length := ⟨_, rfl⟩
    rw [← en] at hf
    have h12 := hf.2.1
    rw [orderR_perm hf]
    refine Ev.pos c (Ev.bind1 (clone_ev (by omega)) ?_)
    have o := ord_spec hf.2.2.1
    have fs := fact_small n (by omega)
    have loop : ∀ d m, 0 < m → m + d = ord n f → Ev (fun k => impl_PermOrder.l0 k (pm n f) (pm n (it f m)) (m : Int)) (ord n f : Int) := by
      intro d
      induction d with
      | zero =>
        intro m hm hd
        have em : m = ord n f := by omega
        have hs : Sm.still n f m = true := by rw [em]; exact (still_iff n f _).2 o.2.2.1
        refine Ev.step (fun k => by rw [impl_PermOrder.l0]) ?_
        rw [pm_length]
        refine Ev.bind1 (still_ev (by omega)) (Ev.bind1 (equal_ev (by rw [pm_length]; omega)) (Ev.pos (by simp [still_pm.2 hs]) ?_))
        rw [em]; exact Ev.now _
      | succ d ih =>
        intro m hm hd
        have hs : Sm.still n f m = false := o.2.2.2 m hm (by omega)
        have hp : ¬ pm n (it f m) = pm n fun i => i := fun e => by rw [still_pm.1 e] at hs; cases hs
        refine Ev.step (fun k => by rw [impl_PermOrder.l0]) ?_
        rw [pm_length]
        refine Ev.bind1 (still_ev (by omega)) (Ev.bind1 (equal_ev (by rw [pm_length]; omega)) (Ev.neg (by simp [hp]) (Ev.bind1 (mul_ev (by omega) (it_bij hf.2.2.1 m).1) ?_)))
        rw [wrap_nat (by omega)]
        exact ih (m + 1) (by omega) (by omega)
    have := loop (ord n f - 1) 1 (by omega) (by omega)
    rw [hf.2.2.2]
    exact this
  · unfold orderR
    rw [if_neg c]
    exact Ev.neg c (Ev.now _)

def pw (n : Nat) (f : Nat → Nat) (k : Int) : Nat → Nat := if k < 0 then it (finv n f) (-k).toNat else it f k.toNat

noncomputable def powerR (a : List Int) (k : Int) : List Int × Bool := if impl_PermValid.validB a = true ∧ -1000 ≤ k ∧ k ≤ 1000 then (pm a.length (pw a.length (fun i => (rd a (i : Int)).toNat) k), true) else ([], false)

theorem pw_congr {n : Nat} {f g : Nat → Nat} (hf : Bij n f) (h : ∀ i, i < n → f i = g i) (k : Int) : ∀ x, x < n → pw n f k x = pw n g k x := by
  intro x hx
  unfold pw
  rw [finv_congr h]
  split
  · rfl
  · exact it_congr hf h _ hx

theorem powerR_perm {n : Nat} {a : List Int} {f : Nat → Nat} (h : IsPerm n a f) (k : Int) (h1 : -1000 ≤ k) (h2 : k ≤ 1000) : powerR a k = (pm n (pw n f k), true) := by
  unfold powerR
  rw [if_pos ⟨isPerm_valid h, h1, h2⟩, isPerm_len h]
  congr 1
  rw [pm_ext]
  intro i hi
  exact (pw_congr h.2.2.1 (fun i hi => (isPerm_rd h i hi).symm) k i hi).symm

theorem powerR_no {a : List Int} {k : Int} (h : ¬ (impl_PermValid.validB a = true ∧ -1000 ≤ k ∧ k ≤ 1000)) : powerR a k = ([], false) := by
  unfold powerR; rw [if_neg h]

theorem implPower_ev (a : List Int) (k : Int) : Ev (fun q => impl_PermPower.f q a k) (powerR a k) := by
  unfold impl_PermPower.f
  refine Ev.bind1 (implValid_ev a) ?_
  have no : powerR a k = ([], false) → Ev (fun q => impl_PermPower.j0 q a k true) (powerR a k) := fun e => by
    rw [e]
    exact Ev.step (f := fun _ => some ([], false)) (fun k => by rw [impl_PermPower.j0, if_pos rfl]) (Ev.now _)
  by_cases c : impl_PermValid.validB a = true
  · refine Ev.pos c ?_
    by_cases c1 : k < -1000
    · exact Ev.pos c1 (no (powerR_no (by omega)))
    · refine Ev.neg c1 ?_
      by_cases c2 : k > 1000
      · have e : decide (k > 1000) = true := decide_eq_true c2
        rw [e]
        exact no (powerR_no (by omega))
      · have e : decide (k > 1000) = false := decide_eq_false c2
        rw [e]
        obtain ⟨f, hf⟩ := (valid_iff a).1 c
        obtain ⟨n, en⟩ : ∃ n, n = a.length := ⟨_, rfl⟩
        rw [← en] at hf
        have h12 := hf.2.1
        rw [powerR_perm hf k (by omega) (by omega)]
        refine Ev.step (fun q => by rw [impl_PermPower.j0]) ?_
        refine Ev.neg (by simp) ?_
        rw [hf.2.2.2, pm_length]
        by_cases c3 : k < 0
        · refine Ev.pos c3 (Ev.bind1 (back_ev (by omega) hf.2.2.1) (Ev.bind1 (still_ev (by omega)) ?_))
          obtain ⟨m, em⟩ : ∃ m : Nat, (m : Int) = -k := ⟨(-k).toNat, by omega⟩
          have hb := finv_bij hf.2.2.1
          have loop : ∀ d i, i + d = m → Ev (fun q => impl_PermPower.l0 q (pm n (finv n f)) (pm n (it (finv n f) i)) (m : Int) (i : Int)) (pm n (it (finv n f) m), true) := by
            intro d
            induction d with
            | zero =>
              intro i hi
              have e : i = m := by omega
              subst e
              exact Ev.step (f := fun _ => some (pm n (it (finv n f) i), true)) (fun q => by rw [impl_PermPower.l0, if_neg (by omega)]) (Ev.now _)
            | succ d ih =>
              intro i hi
              refine Ev.step (fun q => by rw [impl_PermPower.l0]) (Ev.pos (by omega) (Ev.bind1 (mul_ev (by omega) (it_bij hb i).1) ?_))
              rw [wrap_nat (by omega)]
              exact ih (i + 1) (by omega)
          rw [wrap_in (by omega) (by omega), ← em]
          have := loop m 0 (by omega)
          have ep : pw n f k = it (finv n f) m := by
            unfold pw; rw [if_pos c3, show (-k).toNat = m by omega]
          rw [ep]
          exact this
        · refine Ev.neg c3 (Ev.bind1 (still_ev (by omega)) ?_)
          obtain ⟨m, em⟩ : ∃ m : Nat, (m : Int) = k := ⟨k.toNat, by omega⟩
          have loop : ∀ d i, i + d = m → Ev (fun q => impl_PermPower.l1 q (pm n f) (pm n (it f i)) (m : Int) (i : Int)) (pm n (it f m), true) := by
            intro d
            induction d with
            | zero =>
              intro i hi
              have e : i = m := by omega
              subst e
              exact Ev.step (f := fun _ => some (pm n (it f i), true)) (fun q => by rw [impl_PermPower.l1, if_neg (by omega)]) (Ev.now _)
            | succ d ih =>
              intro i hi
              refine Ev.step (fun q => by rw [impl_PermPower.l1]) (Ev.pos (by omega) (Ev.bind1 (mul_ev (by omega) (it_bij hf.2.2.1 i).1) ?_))
              rw [wrap_nat (by omega)]
              exact ih (i + 1) (by omega)
          have := loop m 0 (by omega)
          have ep : pw n f k = it f m := by
            unfold pw; rw [if_neg c3, show k.toNat = m by omega]
          rw [ep, ← em]
          exact this
  · exact Ev.neg c (no (powerR_no (fun e => c e.1)))

theorem l6In_eq (a b c : Int) : spec_l6In.f a b c = some (decide (b ≤ a ∧ a ≤ c)) := by
  unfold spec_l6In.f
  by_cases h : b ≤ a
  · rw [if_pos h]; simp [h]
  · rw [if_neg h]; simp [h]

theorem specPower_pos {n : Nat} {a : List Int} {f : Nat → Nat} (h : IsPerm n a f) (k : Int) (h1 : 0 ≤ k) (h2 : k ≤ 1000) : Ev (fun q => spec_PermPower.f q a k) (pm n (it f k.toNat), true) := by
  have h12 := h.2.1
  have el := isPerm_len h
  refine Ev.step (fun q => by rw [spec_PermPower.f]) (Ev.bind1 (specValid_ev a (by omega)) (Ev.pos (isPerm_valid h) ?_))
  simp only [l6In_eq, Option.bind_some]
  have e : decide (-1000 ≤ k ∧ k ≤ 1000) = true := decide_eq_true ⟨by omega, h2⟩
  rw [e]
  refine Ev.step (fun q => by rw [spec_PermPower.j0]) (Ev.neg (by simp) (Ev.neg (by omega) ?_))
  rw [h.2.2.2, pm_length]
  refine Ev.bind1 (l1Same_ev (by omega)) ?_
  obtain ⟨m, em⟩ : ∃ m : Nat, (m : Int) = k := ⟨k.toNat, by omega⟩
  have loop : ∀ d i, i + d = m → Ev (fun q => spec_PermPower.l0 q (pm n f) (m : Int) (pm n (it f i)) (i : Int)) (pm n (it f m), true) := by
    intro d
    induction d with
    | zero =>
      intro i hi
      have e : i = m := by omega
      subst e
      exact Ev.step (f := fun _ => some (pm n (it f i), true)) (fun q => by rw [spec_PermPower.l0, if_neg (by omega)]) (Ev.now _)
    | succ d ih =>
      intro i hi
      refine Ev.step (fun q => by rw [spec_PermPower.l0]) (Ev.pos (by omega) (Ev.bind1 (l1Mul_ev (by omega) (it_bij h.2.2.1 i).1) ?_))
      rw [wrap_nat (by omega)]
      exact ih (i + 1) (by omega)
  have := loop m 0 (by omega)
  rw [← em, Int.toNat_natCast]
  exact this

theorem specPower_ev {a : List Int} (ha : a.length ≤ 4294967296) (k : Int) : Ev (fun q => spec_PermPower.f q a k) (powerR a k) := by
  have no : powerR a k = ([], false) → Ev (fun q => spec_PermPower.j0 q a k true) (powerR a k) := fun e => by
    rw [e]
    exact Ev.step (f := fun _ => some ([], false)) (fun k => by rw [spec_PermPower.j0, if_pos rfl]) (Ev.now _)
  by_cases c : impl_PermValid.validB a = true
  · by_cases c1 : -1000 ≤ k ∧ k ≤ 1000
    · obtain ⟨f, hf⟩ := (valid_iff a).1 c
      obtain ⟨n, en⟩ : ∃ n, n = a.length := ⟨_, rfl⟩
      rw [← en] at hf
      have h12 := hf.2.1
      rw [powerR_perm hf k c1.1 c1.2]
      by_cases c3 : k < 0
      · refine Ev.step (fun q => by rw [spec_PermPower.f]) (Ev.bind1 (specValid_ev a ha) (Ev.pos c ?_))
        simp only [l6In_eq, Option.bind_some]
        have e : decide (-1000 ≤ k ∧ k ≤ 1000) = true := decide_eq_true c1
        rw [e]
        refine Ev.step (fun q => by rw [spec_PermPower.j0]) (Ev.neg (by simp) (Ev.pos c3 ?_))
        rw [hf.2.2.2]
        have hb : IsPerm n (pm n (finv n f)) (finv n f) := ⟨hf.1, hf.2.1, finv_bij hf.2.2.1, rfl⟩
        have := specPower_pos hb (-k) (by omega) (by omega)
        refine Ev.bind1 (l1Back_ev (by omega) hf.2.2.1) ?_
        rw [wrap_in (by omega) (by omega)]
        refine Ev.bind1 this ?_
        have ep : pw n f k = it (finv n f) (-k).toNat := by unfold pw; rw [if_pos c3]
        rw [ep]
        exact Ev.now _
      · have ep : pw n f k = it f k.toNat := by unfold pw; rw [if_neg c3]
        rw [ep]
        exact specPower_pos hf k (by omega) c1.2
    · have pr := powerR_no (a := a) (k := k) (fun e => c1 e.2)
      refine Ev.step (fun q => by rw [spec_PermPower.f]) (Ev.bind1 (specValid_ev a ha) (Ev.pos c ?_))
      simp only [l6In_eq, Option.bind_some]
      have e : decide (-1000 ≤ k ∧ k ≤ 1000) = false := decide_eq_false c1
      rw [e]
      exact no pr
  · have pr := powerR_no (a := a) (k := k) (fun e => c e.1)
    refine Ev.step (fun q => by rw [spec_PermPower.f]) (Ev.bind1 (specValid_ev a ha) (Ev.neg c ?_))
    exact no pr

theorem xor_i64_nat (a b : Nat) (ha : a < 9223372036854775808) (hb : b < 9223372036854775808) : Go.bits .xor .i64 (a : Int) (b : Int) = ((a ^^^ b : Nat) : Int) := by
  have hx : a ^^^ b < 2 ^ 63 := Nat.xor_lt_two_pow (by omega) (by omega)
  have h1 : (BitVec.ofInt 64 (a : Int)).toNat = a := by
    rw [BitVec.ofInt_natCast, BitVec.toNat_ofNat]; exact Nat.mod_eq_of_lt (by omega)
  have h2 : (BitVec.ofInt 64 (b : Int)).toNat = b := by
    rw [BitVec.ofInt_natCast, BitVec.toNat_ofNat]; exact Nat.mod_eq_of_lt (by omega)
  show IntKind.i64.wrap ((BitVec.ofInt 64 (a : Int) ^^^ BitVec.ofInt 64 (b : Int)).toNat : Int) = _
  rw [BitVec.toNat_xor, h1, h2]
  simp [IntKind.wrap, IntKind.bits, IntKind.signed]
  omega

theorem xor_i64_pos {a b : Int} (h1 : 0 ≤ a) (h2 : a < 9223372036854775808) (h3 : 0 ≤ b) (h4 : b < 9223372036854775808) : 0 ≤ Go.bits .xor .i64 a b := by
  obtain ⟨m, rfl⟩ : ∃ m : Nat, a = m := ⟨a.toNat, by omega⟩
  obtain ⟨k, rfl⟩ : ∃ k : Nat, b = k := ⟨b.toNat, by omega⟩
  rw [xor_i64_nat _ _ (by omega) (by omega)]
  omega

/-- a code's bytes -/
def Bytes (s : List Int) : Prop := s.length ≤ 2000 ∧ ∀ x, x ∈ s → 0 ≤ x ∧ x ≤ 255

theorem Bytes.rd {s : List Int} (h : Bytes s) (i : Int) : 0 ≤ rd s i ∧ rd s i ≤ 255 := by
  unfold Go.Proofs.YtknkefjleinkkaaW.PrintWords.rd
  rw [List.getD_eq_getElem?_getD]
  cases e : s[i.toNat]? with
  | none => simp
  | some x => exact h.2 x (List.mem_of_getElem? e)

theorem tmod_in {a n : Int} (ha : 0 ≤ a) (hn : 1 ≤ n) : 0 ≤ Int.tmod a n ∧ Int.tmod a n < n := by
  rw [Int.tmod_eq_emod_of_nonneg ha]
  exact ⟨Int.emod_nonneg _ (by omega), Int.emod_lt_of_pos _ (by omega)⟩

theorem pick_ev {s : List Int} (hs : Bytes s) {p n : Int} (h0 : 0 ≤ p) (h1 : p ≤ 1000000000) (hn : n ≤ 1000000000) :
    ∃ v, Ev (fun k => spec_l6Rd_pick.f k s p n) (v, p + 1) ∧ 0 ≤ v ∧ v ≤ 1000000000 ∧ (1 ≤ n → v < n) := by
  have w1 : wrap64 (p + 1) = p + 1 := wrap_in (by omega) (by omega)
  have w2 : wrap64 (p + 1 - 1) = p := by rw [wrap_in (by omega) (by omega)]; omega
  unfold spec_l6Rd_pick.f
  by_cases c : n < 1
  · refine ⟨0, Ev.pos c ?_, by omega, by omega, fun e => by omega⟩
    rw [w1]
    exact Ev.step (f := fun _ => some (0, p + 1)) (fun k => by rw [spec_l6Rd_pick.j0, if_pos rfl]) (Ev.now _)
  · by_cases d : s.length = 0
    · refine ⟨0, Ev.neg c ?_, by omega, by omega, fun e => by omega⟩
      rw [w1]
      have e : ((s.length : Int) == 0) = true := by simp [d]
      rw [e]
      exact Ev.step (f := fun _ => some (0, p + 1)) (fun k => by rw [spec_l6Rd_pick.j0, if_pos rfl]) (Ev.now _)
    · have e : ((s.length : Int) == 0) = false := by
        exact beq_eq_false_iff_ne.mpr (by omega)
      have hl := hs.1
      by_cases f : p < s.length
      · have r := hs.rd p
        have t := tmod_in (a := rd s p) (n := n) r.1 (by omega)
        refine ⟨Int.tmod (rd s p) n, Ev.neg c ?_, t.1, by omega, fun _ => t.2⟩
        rw [w1, e]
        refine Ev.step (f := fun _ => some (Int.tmod (rd s p) n, p + 1)) (fun k => by
          rw [spec_l6Rd_pick.j0, w2, if_neg (by simp), if_pos f, if_pos h0, if_neg (by omega), wrap_in (by omega) (by omega)]) (Ev.now _)
      · have m1 := tmod_in (a := p) (n := (s.length : Int)) h0 (by omega)
        have w3 : wrap64 (p * 7) = p * 7 := wrap_in (by omega) (by omega)
        have w4 : wrap64 (p * 7 + 3) = p * 7 + 3 := wrap_in (by omega) (by omega)
        have m2 := tmod_in (a := p * 7 + 3) (n := (s.length : Int)) (by omega) (by omega)
        obtain ⟨A, hA⟩ : ∃ A, A = rd s (Int.tmod p (s.length : Int)) := ⟨_, rfl⟩
        obtain ⟨B, hB⟩ : ∃ B, B = rd s (Int.tmod (p * 7 + 3) (s.length : Int)) := ⟨_, rfl⟩
        have a1 : 0 ≤ A ∧ A ≤ 255 := by rw [hA]; exact hs.rd _
        have b1 : 0 ≤ B ∧ B ≤ 255 := by rw [hB]; exact hs.rd _
        obtain ⟨D, hD⟩ : ∃ D, D = Int.tdiv p (s.length : Int) := ⟨_, rfl⟩
        have d1 : 0 ≤ D ∧ D ≤ p := by
          rw [hD, Int.tdiv_eq_ediv_of_nonneg h0]
          exact ⟨Int.ediv_nonneg h0 (by omega), Int.ediv_le_self _ h0⟩
        obtain ⟨X, hX⟩ : ∃ X, X = A * 131 + B * 1117 + p * 29 + D * 53 := ⟨_, rfl⟩
        have x1 : 0 ≤ X ∧ X ≤ 100000000000 := by omega
        have y1 : 0 ≤ Int.tdiv X 64 ∧ Int.tdiv X 64 ≤ X := by
          rw [Int.tdiv_eq_ediv_of_nonneg x1.1]; omega
        have z := xor_i64_pos (a := X) (b := Int.tdiv X 64) x1.1 (by omega) y1.1 (by omega)
        have t := tmod_in (n := n) z (by omega)
        refine ⟨Int.tmod (Go.bits .xor .i64 X (Int.tdiv X 64)) n, Ev.neg c ?_, t.1, by omega, fun _ => t.2⟩
        rw [w1, e]
        refine Ev.step (f := fun _ => some (Int.tmod (Go.bits .xor .i64 X (Int.tdiv X 64)) n, p + 1)) (fun k => by
          rw [spec_l6Rd_pick.j0, w2, if_neg (by simp), if_neg f, if_neg (by omega), if_pos m1.1, if_pos m1.2, w3, w4, if_pos m2.1, if_pos m2.2, if_neg (by omega), ← hA, ← hB, ← hD]
          rw [wrap_in (n := A) (by omega) (by omega), wrap_in (n := B) (by omega) (by omega), wrap_in (n := A * 131) (by omega) (by omega), wrap_in (n := B * 1117) (by omega) (by omega), wrap_in (n := A * 131 + B * 1117) (by omega) (by omega), wrap_in (n := p * 29) (by omega) (by omega), wrap_in (n := A * 131 + B * 1117 + p * 29) (by omega) (by omega), wrap_in (n := D) (by omega) (by omega), wrap_in (n := D * 53) (by omega) (by omega), wrap_in (n := A * 131 + B * 1117 + p * 29 + D * 53) (by omega) (by omega), ← hX, wrap_in (n := Int.tdiv X 64) (by omega) (by omega)]) (Ev.now _)

theorem open_ev {l : List Int} (hw : ∀ x ∈ l, (Lit.int .u8 x).wf = true) : ∃ s, Bytes s ∧ Ev (fun _ => spec_l6Open.f l) (s, 0) := by
  have hb : ∀ x, x ∈ l → 0 ≤ x ∧ x ≤ 255 := by
    intro x hx
    have := hw x hx
    simp [Lit.wf, IntKind.min, IntKind.max, IntKind.signed, IntKind.bits] at this
    omega
  unfold spec_l6Open.f
  by_cases c : (l.length : Int) > 2000
  · refine ⟨l.take 2000, ⟨by simp; omega, fun x hx => hb x (List.mem_of_mem_take hx)⟩, Ev.pos c (Ev.pos (by omega) (Ev.now _))⟩
  · exact ⟨l, ⟨by omega, hb⟩, Ev.neg c (Ev.now _)⟩

/-- f with the point n put into the cycle ahead of k -/
def ins (n k : Nat) (f : Nat → Nat) (x : Nat) : Nat := if x = n then f k else if x = k then n else f x

theorem ins_bij {n k : Nat} {f : Nat → Nat} (hf : Bij n f) (hk : k < n) : Bij (n + 1) (ins n k f) := by
  constructor
  · intro i hi
    unfold ins
    split
    · have := hf.1 k hk; omega
    · split
      · omega
      · have := hf.1 i (by omega); omega
  · intro i j hi hj e
    unfold ins at e
    have bi : i ≠ n → f i < n := fun h => hf.1 i (by omega)
    have bj : j ≠ n → f j < n := fun h => hf.1 j (by omega)
    have bk := hf.1 k hk
    by_cases a1 : i = n <;> by_cases a2 : j = n
    · omega
    · rw [if_pos a1, if_neg a2] at e
      by_cases a3 : j = k
      · rw [if_pos a3] at e; omega
      · rw [if_neg a3] at e; exact absurd (hf.2 k j hk (by omega) e) (fun h => a3 h.symm)
    · rw [if_neg a1, if_pos a2] at e
      by_cases a3 : i = k
      · rw [if_pos a3] at e; omega
      · rw [if_neg a3] at e; exact absurd (hf.2 i k (by omega) hk e) a3
    · rw [if_neg a1, if_neg a2] at e
      by_cases a3 : i = k <;> by_cases a4 : j = k
      · omega
      · rw [if_pos a3, if_neg a4] at e; have := bj a2; omega
      · rw [if_neg a3, if_pos a4] at e; have := bi a1; omega
      · rw [if_neg a3, if_neg a4] at e; exact hf.2 i j (by omega) (by omega) e

theorem add_bij {n : Nat} {f : Nat → Nat} (hf : Bij n f) : Bij (n + 1) (fun x => if x = n then n else f x) := by
  constructor
  · intro i hi
    show (if i = n then n else f i) < n + 1
    split
    · omega
    · have := hf.1 i (by omega); omega
  · intro i j hi hj e
    have e' : (if i = n then n else f i) = (if j = n then n else f j) := e
    by_cases a1 : i = n <;> by_cases a2 : j = n
    · omega
    · rw [if_pos a1, if_neg a2] at e'; have := hf.1 j (by omega); omega
    · rw [if_neg a1, if_pos a2] at e'; have := hf.1 i (by omega); omega
    · rw [if_neg a1, if_neg a2] at e'; exact hf.2 i j (by omega) (by omega) e'

theorem perm_ev {s : List Int} (hs : Bytes s) {p : Int} (h0 : 0 ≤ p) (h1 : p ≤ 1000000) {n : Nat} (hn : n ≤ 1000) : ∃ f, Bij n f ∧ Ev (fun k => spec_l91Perm.f k s p (n : Int)) (pm n f, p + n) := by
  have loop : ∀ d i (f : Nat → Nat), i + d = n → Bij i f → ∃ g, Bij n g ∧ Ev (fun k => spec_l91Perm.l0 k (n : Int) (pm i f) (i : Int) s (p + i)) (pm n g, p + n) := by
    intro d
    induction d with
    | zero =>
      intro i f hi hf
      have e : i = n := by omega
      subst e
      exact ⟨f, hf, Ev.step (f := fun _ => some (pm i f, p + i)) (fun k => by rw [spec_l91Perm.l0, if_neg (by omega)]) (Ev.now _)⟩
    | succ d ih =>
      intro i f hi hf
      obtain ⟨v, ev, v0, _, v1⟩ := pick_ev hs (p := p + i) (n := (i : Int) + 1) (by omega) (by omega) (by omega)
      have v2 := v1 (by omega)
      obtain ⟨k, rfl⟩ : ∃ k : Nat, v = k := ⟨v.toNat, by omega⟩
      have ep : p + (i : Int) + 1 = p + ((i + 1 : Nat) : Int) := by omega
      by_cases c : k = i
      · subst c
        obtain ⟨g, hg, eg⟩ := ih (k + 1) _ (by omega) (add_bij hf)
        refine ⟨g, hg, ?_⟩
        refine Ev.step (fun q => by rw [spec_l91Perm.l0]) (Ev.pos (by omega) ?_)
        rw [wrap_nat (by omega)]
        refine Ev.bind1 ev (Ev.pos rfl (Ev.pos (by rw [pm_length]; omega) ?_))
        have es : pm k f ++ [(k : Int)] = pm (k + 1) (fun x => if x = k then k else f x) := by
          unfold pm
          rw [List.range_succ, List.map_append]
          congr 1
          · apply List.map_congr_left
            intro x hx
            have : x < k := by simpa using hx
            show (f x : Int) = ((if x = k then k else f x : Nat) : Int)
            rw [if_neg (by omega)]
          · simp
        rw [es]
        show Ev (fun q => spec_l91Perm.l0 q _ _ _ s (p + (k : Int) + 1)) _
        rw [ep]
        exact eg
      · have hk : k < i := by omega
        obtain ⟨g, hg, eg⟩ := ih (i + 1) _ (by omega) (ins_bij hf hk)
        refine ⟨g, hg, ?_⟩
        refine Ev.step (fun q => by rw [spec_l91Perm.l0]) (Ev.pos (by omega) ?_)
        rw [wrap_nat (by omega)]
        refine Ev.bind1 ev (Ev.neg (by show ¬ (k : Int) = i; omega) (Ev.pos (by show 0 ≤ (k : Int); omega) (Ev.pos (by rw [pm_length]; show (k : Int) < i; omega) (Ev.pos (by rw [pm_length]; omega) ?_))))
        refine Ev.some1 (Ev.pos (by simp [pm_length]; omega) ?_)
        have es : (pm i f ++ [rd (pm i f) (k : Int)]).set ((k : Int)).toNat (i : Int) = pm (i + 1) (ins i k f) := by
          refine eq_pm' (by simp [pm_length]) fun x hx => ?_
          rw [Int.toNat_natCast, rd_set (by simp [pm_length]; omega), rd_pm hk]
          unfold ins
          by_cases a1 : k = x
          · rw [if_pos a1, if_neg (by omega), if_pos a1.symm]
          · rw [if_neg a1]
            by_cases a2 : x = i
            · rw [if_pos a2, a2]
              have : i < (pm i f ++ [(f k : Int)]).length := by simp [pm_length]
              rw [rd_get this]
              simp [pm_length]
            · rw [if_neg a2, if_neg (fun e => a1 e.symm)]
              have hx' : x < i := by omega
              have : x < (pm i f ++ [(f k : Int)]).length := by simp [pm_length]; omega
              rw [rd_get this, List.getElem_append_left (by rw [pm_length]; exact hx'), ← rd_get (by rw [pm_length]; exact hx'), rd_pm hx']
        show Ev (fun q => spec_l91Perm.l0 q _ ((pm i f ++ [rd (pm i f) (k : Int)]).set ((k : Int)).toNat (i : Int)) _ s (p + (i : Int) + 1)) _
        rw [es, ep]
        exact eg
  obtain ⟨g, hg, eg⟩ := loop n 0 (fun x => x) (by omega) (id_bij 0)
  refine ⟨g, hg, ?_⟩
  unfold spec_l91Perm.f
  have : p + ((0 : Nat) : Int) = p := by omega
  rw [this] at eg
  exact eg

/-- some list of numbers, seldom no permutation -/
theorem some_ev {s : List Int} (hs : Bytes s) {p : Int} (h0 : 0 ≤ p) (h1 : p ≤ 100000) {n : Int} (hn : 1 ≤ n) (hn2 : n ≤ 20) : ∃ l p', Ev (fun k => spec_l91Some.f k s p n) (l, p') ∧ l.length ≤ 30 ∧ p ≤ p' ∧ p' ≤ p + 100 := by
  obtain ⟨v, ev, v0, _, v1⟩ := pick_ev hs (p := p) (n := n) h0 (by omega) (by omega)
  have v2 := v1 hn
  obtain ⟨m, rfl⟩ : ∃ m : Nat, v = m := ⟨v.toNat, by omega⟩
  obtain ⟨f, hf, ef⟩ := perm_ev hs (p := p + 1) (n := 1 + m) (by omega) (by omega) (by omega)
  obtain ⟨v', ev', v0', _, v1'⟩ := pick_ev hs (p := p + 1 + ((1 + m : Nat) : Int)) (n := 40) (by omega) (by omega) (by omega)
  have ew : wrap64 (1 + (m : Int)) = ((1 + m : Nat) : Int) := by rw [wrap_in (by omega) (by omega)]; omega
  unfold spec_l91Some.f
  have hl : (pm (1 + m) f).length = 1 + m := pm_length _ _
  by_cases c0 : v' = 0
  · obtain ⟨v'', ev'', v0'', _, v1''⟩ := pick_ev hs (p := p + 1 + ((1 + m : Nat) : Int) + 1) (n := 2) (by omega) (by omega) (by omega)
    have := v1'' (by omega)
    refine ⟨(pm (1 + m) f).set 0 (rd [(-1), ((pm (1 + m) f).length : Int)] v''), p + 1 + ((1 + m : Nat) : Int) + 1 + 1, ?_, by simp [pm_length]; omega, by omega, by omega⟩
    refine Ev.bind1 ev ?_
    show Ev (fun n_1 => (spec_l91Perm.f n_1 s (p + 1) (wrap64 (1 + (m : Int)))).bind _) _
    rw [ew]
    exact Ev.bind1 ef (Ev.bind1 ev' (Ev.pos c0 (Ev.some1 (Ev.bind1 ev'' (Ev.pos v0'' (Ev.pos (by simp; omega) (Ev.pos (by simp [pm_length]; omega) (Ev.now _))))))))
  · by_cases c1 : v' = 1
    · refine ⟨[], p + 1 + ((1 + m : Nat) : Int) + 1, ?_, by simp, by omega, by omega⟩
      refine Ev.bind1 ev ?_
      show Ev (fun n_1 => (spec_l91Perm.f n_1 s (p + 1) (wrap64 (1 + (m : Int)))).bind _) _
      rw [ew]
      exact Ev.bind1 ef (Ev.bind1 ev' (Ev.neg c0 (Ev.pos c1 (Ev.now _))))
    · by_cases c2 : v' = 2
      · refine ⟨pm (1 + m) f ++ [rd (pm (1 + m) f) 0], p + 1 + ((1 + m : Nat) : Int) + 1, ?_, by simp [pm_length]; omega, by omega, by omega⟩
        refine Ev.bind1 ev ?_
        show Ev (fun n_1 => (spec_l91Perm.f n_1 s (p + 1) (wrap64 (1 + (m : Int)))).bind _) _
        rw [ew]
        exact Ev.bind1 ef (Ev.bind1 ev' (Ev.neg c0 (Ev.neg c1 (Ev.pos c2 (Ev.pos (by simp [pm_length]; omega) (Ev.pos (by simp [pm_length]; omega) (Ev.now _)))))))
      · refine ⟨pm (1 + m) f, p + 1 + ((1 + m : Nat) : Int) + 1, ?_, by simp [pm_length]; omega, by omega, by omega⟩
        refine Ev.bind1 ev ?_
        show Ev (fun n_1 => (spec_l91Perm.f n_1 s (p + 1) (wrap64 (1 + (m : Int)))).bind _) _
        rw [ew]
        exact Ev.bind1 ef (Ev.bind1 ev' (Ev.neg c0 (Ev.neg c1 (Ev.neg c2 (Ev.now _)))))

theorem powerR_len {a : List Int} {k : Int} (h : a.length ≤ 1048576) : ((powerR a k).1).length ≤ 1048576 := by
  unfold powerR; split
  · rw [pm_length]; exact h
  · simp

theorem mulR_perm {n : Nat} {a b : List Int} {f g : Nat → Nat} (h : IsPerm n a f) (k : IsPerm n b g) : mulR a b = (pm n (fun i => g (f i)), true) := by
  unfold mulR
  rw [if_pos ((both_iff a b).2 ⟨n, f, g, h, k⟩), h.2.2.2, k.2.2.2, pm_map h.2.2.1.1]

theorem implMul_pm {n : Nat} {a b : List Int} {f g : Nat → Nat} (h : IsPerm n a f) (k : IsPerm n b g) : Ev (fun q => impl_PermMul.f q a b) (pm n (fun i => g (f i)), true) := by
  have := implMul_ev a b; rwa [mulR_perm h k] at this

theorem pw_succ {n : Nat} {f : Nat → Nat} (hf : Bij n f) (k : Int) {x : Nat} (hx : x < n) : pw n f (k + 1) x = f (pw n f k x) := by
  unfold pw
  by_cases c : k < 0
  · rw [if_pos c]
    obtain ⟨m, em⟩ : ∃ m : Nat, (-k).toNat = m + 1 := ⟨(-k).toNat - 1, by omega⟩
    rw [em]
    have lt := it_lt (finv_bij hf) m hx
    have back : f (it (finv n f) (m + 1) x) = it (finv n f) m x := (finv_spec hf lt).2
    rw [back]
    by_cases c2 : k + 1 < 0
    · rw [if_pos c2, show (-(k + 1)).toNat = m by omega]
    · rw [if_neg c2, show (k + 1).toNat = 0 by omega, show m = 0 by omega]; rfl
  · rw [if_neg c, if_neg (by omega), show (k + 1).toNat = k.toNat + 1 by omega]; rfl

theorem pw_add {n : Nat} {f : Nat → Nat} (hf : Bij n f) (k : Int) (m : Nat) {x : Nat} (hx : x < n) : pw n f (k + m) x = it f m (pw n f k x) := by
  induction m with
  | zero => rw [show k + ((0 : Nat) : Int) = k by omega]; rfl
  | succ m ih =>
    rw [show k + ((m + 1 : Nat) : Int) = (k + m) + 1 by omega, pw_succ hf _ hx, ih]; rfl

theorem pw_bij {n : Nat} {f : Nat → Nat} (hf : Bij n f) (k : Int) : Bij n (pw n f k) := by
  unfold pw; split
  · exact it_bij (finv_bij hf) _
  · exact it_bij hf _

theorem drawPower_ev {l : List Int} (hw : ∀ x ∈ l, (Lit.int .u8 x).wf = true) : ∃ p k, p.length ≤ 30 ∧ Ev (fun q => spec_DrawPermPower.f q l) (p, k) := by
  obtain ⟨s, hs, es⟩ := open_ev hw
  obtain ⟨p, r, e, hl, r0, r1⟩ := some_ev hs (p := 0) (by omega) (by omega) (n := 8) (by omega) (by omega)
  obtain ⟨v, ev, v0, _, v1⟩ := pick_ev hs (p := r) (n := 16) (by omega) (by omega) (by omega)
  by_cases c : v = 0
  · obtain ⟨u, eu, u0, _, u1⟩ := pick_ev hs (p := r + 1) (n := 4) (by omega) (by omega) (by omega)
    have := u1 (by omega)
    refine ⟨p, rd [1001, -1001, -9223372036854775808, 1000] u, hl, ?_⟩
    unfold spec_DrawPermPower.f
    exact Ev.bind1 es (Ev.bind1 e (Ev.bind1 ev (Ev.pos c (Ev.some1 (Ev.bind1 eu (Ev.pos u0 (Ev.pos (by simp; omega) (Ev.now _))))))))
  · obtain ⟨u, eu, u0, _, u1⟩ := pick_ev hs (p := r + 1) (n := 31) (by omega) (by omega) (by omega)
    refine ⟨p, wrap64 (u - 10), hl, ?_⟩
    unfold spec_DrawPermPower.f
    exact Ev.bind1 es (Ev.bind1 e (Ev.bind1 ev (Ev.neg c (Ev.bind1 eu (Ev.now _)))))

theorem stayOf_ev {n : Nat} (hn : n ≤ 1000) : Ev (fun k => laws_stayOf.f k (n : Int)) (pm n fun i => i) := by
  have loop : ∀ d i, i + d = n → Ev (fun k => laws_stayOf.l0 k (n : Int) (pm i fun i => i) (i : Int)) (pm n fun i => i) := by
    intro d
    induction d with
    | zero =>
      intro i hi
      have e : i = n := by omega
      subst e
      exact Ev.step (f := fun _ => some (pm i fun i => i)) (fun k => by rw [laws_stayOf.l0, if_neg (by omega)]) (Ev.now _)
    | succ d ih =>
      intro i hi
      refine Ev.step (f := fun k => laws_stayOf.l0 k (n : Int) (pm (i + 1) fun i => i) ((i + 1 : Nat) : Int)) (fun k => by
        rw [laws_stayOf.l0, if_pos (by omega), if_pos (by rw [pm_length]; omega), wrap_nat (by omega)]
        simp [pm, List.range_succ]) (ih (i + 1) (by omega))
  unfold laws_stayOf.f
  exact loop n 0 (by omega)

/-- Powers go round. -/
theorem FnPower : laws_FnPower.Pure := by
  intro l hl1 hl2 hw
  refine Ev.rounds ?_
  unfold laws_FnPower.f
  by_cases c : (l.length : Int) > 1048576
  · exact Ev.pos c (Ev.now _)
  obtain ⟨p, m, hp, ep⟩ := drawPower_ev hw
  have hlen : (powerR p m).1.length ≤ 1048576 := powerR_len (by omega)
  refine Ev.neg c (Ev.bind1 ep (Ev.bind1 (implPower_ev p m) (Ev.bind1 (specPower_ev (by show p.length ≤ _; omega) m) (Ev.neg (by simp) (Ev.bind1 (sameInts_ev (by omega)) (Ev.pos (by simp) ?_))))))
  refine Ev.step (fun k => by rw [laws_FnPower.j0]) ?_
  by_cases v : impl_PermValid.validB p = true ∧ -1000 ≤ m ∧ m ≤ 1000
  · obtain ⟨f, hf⟩ := (valid_iff p).1 v.1
    obtain ⟨n, en⟩ : ∃ n, n = p.length := ⟨_, rfl⟩
    rw [← en] at hf
    have h12 := hf.2.1
    rw [powerR_perm hf m v.2.1 v.2.2]
    have o := ord_spec hf.2.2.1
    have fs := fact_small n (by omega)
    have eo := implOrder_ev p
    rw [orderR_perm hf] at eo
    have hpw : IsPerm n (pm n (pw n f m)) (pw n f m) := ⟨hf.1, hf.2.1, pw_bij hf.2.2.1 m, rfl⟩
    have ez := implPower_ev p 0
    rw [powerR_perm hf 0 (by omega) (by omega)] at ez
    have e0 : pm n (pw n f 0) = pm n fun i => i := pm_ext.2 fun i _ => rfl
    rw [e0] at ez
    have es := stayOf_ev (n := n) (by omega)
    rw [← isPerm_len hf] at es
    rw [isPerm_len hf] at es
    have w1 : wrap64 (m + (ord n f : Int)) = m + (ord n f : Nat) := wrap_in (by omega) (by omega)
    have w2 : wrap64 (m + 1) = m + 1 := wrap_in (by omega) (by omega)
    have x1 : pm n (pw n f (m + (ord n f : Nat))) = pm n (pw n f m) := by
      rw [pm_ext]
      intro x hx
      rw [pw_add hf.2.2.1 m _ hx]
      exact o.2.2.1 _ ((pw_bij hf.2.2.1 m).1 x hx)
    have x2 : pm n (pw n f (m + 1)) = pm n (fun i => f (pw n f m i)) := by
      rw [pm_ext]; intro x hx; exact pw_succ hf.2.2.1 m hx
    have tail : Ev (fun k => if (powerR p (m + 1)).2 = true then ((laws_sameInts.f k (powerR p (m + 1)).1 (pm n (fun i => f (pw n f m i)))).bind fun t => some t) else some true) true := by
      by_cases r2 : m + 1 ≤ 1000
      · rw [powerR_perm hf (m + 1) (by omega) r2, x2]
        refine Ev.pos rfl (Ev.bind1 (sameInts_ev (by rw [pm_length]; omega)) ?_)
        simp only [decide_true]
        exact Ev.now _
      · rw [powerR_no (fun e => r2 e.2.2)]
        exact Ev.neg (by simp) (Ev.now _)
    refine Ev.neg (by simp) (Ev.bind1 eo ?_)
    rw [w1, w2]
    refine Ev.bind1 (implPower_ev p _) (Ev.bind1 (implPower_ev p _) (Ev.bind1 (implMul_pm hpw hf) (Ev.bind1 ez (Ev.pos rfl (Ev.pos rfl (Ev.bind1 (g := fun k => laws_stayOf.f k (p.length : Int)) (by rw [isPerm_len hf]; exact es) (Ev.bind1 (sameInts_ev (by rw [pm_length]; omega)) (Ev.pos (by simp) ?_))))))))
    by_cases r1 : m + (ord n f : Nat) ≤ 1000
    · rw [powerR_perm hf (m + (ord n f : Nat)) (by omega) r1, x1]
      exact Ev.pos rfl (Ev.bind1 (sameInts_ev (by rw [pm_length]; omega)) (Ev.pos (by simp) tail))
    · rw [powerR_no (k := m + (ord n f : Nat)) (fun e => r1 e.2.2)]
      exact Ev.neg (by simp) tail
  · have e : powerR p m = ([], false) := powerR_no v
    rw [e]
    refine Ev.pos rfl (Ev.pos (by simp) (Ev.bind1 (sameInts_ev (by simp)) ?_))
    simp only [decide_true]
    exact Ev.now _
end Go.Proofs.Ytknkefjleinkkaa.R
namespace Go.Proofs.Ytknkefjleinkkaa.Pure
theorem FnPower : Go.Proofs.Ytknkefjleinkkaa.F.laws_FnPower.Pure := Go.Proofs.Ytknkefjleinkkaa.R.FnPower
end Go.Proofs.Ytknkefjleinkkaa.Pure
