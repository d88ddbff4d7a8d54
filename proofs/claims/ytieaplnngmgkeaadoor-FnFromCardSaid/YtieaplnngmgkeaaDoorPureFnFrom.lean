/- What is read is a permutation. -/
import Derived.Test.YtieaplnngmgkeaaDoorF0
import Derived.Test.YtieaplnngmgkeaaDoorF10
import Derived.Test.YtieaplnngmgkeaaDoorF12
import Derived.Test.YtieaplnngmgkeaaDoorF13
import Derived.Test.YtieaplnngmgkeaaDoorF14
import Derived.Test.YtieaplnngmgkeaaDoorF15
import Derived.Test.YtieaplnngmgkeaaDoorF2
import Derived.Test.YtieaplnngmgkeaaDoorF20
import Derived.Test.YtieaplnngmgkeaaDoorF22
import Derived.Test.YtieaplnngmgkeaaDoorF23
import Derived.Test.YtieaplnngmgkeaaDoorF24
import Derived.Test.YtieaplnngmgkeaaDoorF27
import Derived.Test.YtieaplnngmgkeaaDoorF28
import Derived.Test.YtieaplnngmgkeaaDoorF3
import Derived.Test.YtieaplnngmgkeaaDoorF5
import Derived.Test.YtieaplnngmgkeaaDoorF6
import Derived.Test.YtieaplnngmgkeaaDoorF7
import Derived.Test.YtieaplnngmgkeaaDoorF8
import Derived.Test.YtieaplnngmgkeaaDoorF9
set_option linter.unusedVariables false
set_option linter.unusedSimpArgs false
namespace Go.Proofs.YtieaplnngmgkeaaDoor.Sm
open List
/-- f permutes the numbers below n. -/
def Bij (n : Nat) (f : Nat → Nat) : Prop := (∀ i, i < n → f i < n) ∧ (∀ i j, i < n → j < n → f i = f j → i = j)

/-- the list of a permutation -/
def pm (n : Nat) (f : Nat → Nat) : List Int := (List.range n).map (fun i => (f i : Int))

theorem pm_length (n : Nat) (f : Nat → Nat) : (pm n f).length = n := by simp [pm]

theorem pm_getD (n : Nat) (f : Nat → Nat) (i : Nat) (h : i < n) : (pm n f).getD i 0 = (f i : Int) := by
 simp [pm, List.getD, h]

theorem pm_ext {n : Nat} {f g : Nat → Nat} : pm n f = pm n g ↔ ∀ i, i < n → f i = g i := by
 constructor
 ·intro h i hi
  have := pm_getD n f i hi
  rw [h, pm_getD n g i hi] at this
  omega
 ·intro h
  unfold pm
  apply List.map_congr_left
  intro i hi
  rw [h i (by simpa using hi)]

theorem eq_pm (n : Nat) (f : Nat → Nat) (l : List Int) (hl : l.length = n) (h : ∀ i, i < n → l.getD i 0 = (f i : Int)) : l = pm n f := by
 apply List.ext_getElem
 ·rw [hl, pm_length]
 ·intro i h1 h2
  have := h i (by omega)
  have e := pm_getD n f i (by omega)
  simp only [List.getD_eq_getElem?_getD, List.getElem?_eq_getElem h1, Option.getD_some] at this
  simp only [List.getD_eq_getElem?_getD, List.getElem?_eq_getElem h2, Option.getD_some] at e
  rw [this, e]

theorem id_bij (n : Nat) : Bij n (fun i => i) := ⟨fun _ h => h, fun _ _ _ _ e => e⟩

/-- f done m times -/
def it (f : Nat → Nat) : Nat → Nat → Nat
 | 0, x => x
 | m + 1, x => f (it f m x)

theorem it_add (f : Nat → Nat) (a b x : Nat) : it f (a + b) x = it f a (it f b x) := by
 induction a with
 | zero => simp [it]
 | succ a ih => rw [Nat.succ_add]; simp [it, ih]

theorem it_lt {n : Nat} {f : Nat → Nat} (h : Bij n f) (m : Nat) {x : Nat} (hx : x < n) : it f m x < n := by
 induction m with
 | zero => exact hx
 | succ m ih => exact h.1 _ ih

theorem it_inj {n : Nat} {f : Nat → Nat} (h : Bij n f) (m : Nat) {x y : Nat} (hx : x < n) (hy : y < n) (e : it f m x = it f m y) : x = y := by
 induction m with
 | zero => exact e
 | succ m ih => exact ih (h.2 _ _ (it_lt h m hx) (it_lt h m hy) e)

/-- pigeonhole: more than n numbers below n: two are equal -/
theorem pigeon (n : Nat) (g : Nat → Nat) (h : ∀ i, i ≤ n → g i < n) : ∃ i j, i < j ∧ j ≤ n ∧ g i = g j := by
 induction n generalizing g with
 | zero => exact absurd (h 0 (by omega)) (by omega)
 | succ n ih =>
  by_cases c : ∃ i, i < n + 1 ∧ g i = g (n + 1)
  ·obtain ⟨i, hi, e⟩ := c; exact ⟨i, n + 1, hi, by omega, e⟩
  ·have c' : ∀ i, i < n + 1 → g i ≠ g (n + 1) := fun i hi e => c ⟨i, hi, e⟩
   obtain ⟨i, j, hij, hj, e⟩ := ih (fun i => if g i = n then g (n + 1) else g i) (fun i hi => by
    have a := h i (by omega)
    have b := h (n + 1) (by omega)
    have d := c' i (by omega)
    show (if g i = n then g (n + 1) else g i) < n
    split <;> omega)
   refine ⟨i, j, hij, by omega, ?_⟩
   have di := c' i (by omega)
   have dj := c' j (by omega)
   by_cases e1 : g i = n <;> by_cases e2 : g j = n
   ·omega
   ·rw [if_pos e1, if_neg e2] at e; omega
   ·rw [if_neg e1, if_pos e2] at e; omega
   ·rw [if_neg e1, if_neg e2] at e; exact e

theorem it_back {n : Nat} {f : Nat → Nat} (h : Bij n f) {x : Nat} (hx : x < n) : ∃ m, 0 < m ∧ m ≤ n ∧ it f m x = x := by
 obtain ⟨i, j, hij, hj, e⟩ := pigeon n (fun m => it f m x) (fun m _ => it_lt h m hx)
 refine ⟨j - i, by omega, by omega, ?_⟩
 have : it f (i + (j - i)) x = it f i (it f (j - i) x) := it_add ..
 rw [show i + (j - i) = j by omega] at this
 exact (it_inj h i hx (it_lt h _ hx) (e.trans this)).symm

/-- the least positive m with p m, below a bound; else 0 -/
def least (p : Nat → Bool) (n : Nat) : Nat := ((List.range n).find? (fun m => p (m + 1))).elim 0 (· + 1)

theorem find_range_some {n : Nat} {p : Nat → Bool} {m : Nat} (h : (List.range n).find? p = some m) : m < n ∧ p m = true ∧ ∀ k, k < m → p k = false := by
 induction n generalizing m with
 | zero => simp at h
 | succ n ih =>
  rw [List.range_succ, List.find?_append] at h
  cases e : (List.range n).find? p with
  | some z =>
   rw [e] at h; simp at h; subst h
   have := ih e
   exact ⟨by omega, this.2⟩
  | none =>
   rw [e] at h
   simp at h
   obtain ⟨h1, rfl⟩ := h
   refine ⟨by omega, h1, fun k hk => ?_⟩
   rw [List.find?_eq_none] at e
   simpa using e k (by simpa using hk)

theorem least_spec {p : Nat → Bool} {n m : Nat} (hm : 0 < m) (hn : m ≤ n) (h : p m = true) :
 0 < least p n ∧ least p n ≤ m ∧ p (least p n) = true ∧ ∀ k, 0 < k → k < least p n → p k = false := by
 unfold least
 cases e : (List.range n).find? (fun m => p (m + 1)) with
 | none =>
  rw [List.find?_eq_none] at e
  have := e (m - 1) (by simp; omega)
  rw [show m - 1 + 1 = m by omega] at this
  exact absurd h this
 | some z =>
  obtain ⟨h1, h2, h3⟩ := find_range_some e
  simp only [Option.elim_some]
  refine ⟨by omega, ?_, h2, fun k hk hk2 => ?_⟩
  ·apply Nat.le_of_not_lt
   intro hlt
   have := h3 (m - 1) (by omega)
   rw [show m - 1 + 1 = m by omega, h] at this
   cases this
  ·have := h3 (k - 1) (by omega)
   rwa [show k - 1 + 1 = k by omega] at this

/-- how long the cycle of x is -/
def per (n : Nat) (f : Nat → Nat) (x : Nat) : Nat := least (fun m => it f m x == x) n

theorem per_spec {n : Nat} {f : Nat → Nat} (h : Bij n f) {x : Nat} (hx : x < n) :
 0 < per n f x ∧ per n f x ≤ n ∧ it f (per n f x) x = x ∧ ∀ k, 0 < k → k < per n f x → it f k x ≠ x := by
 obtain ⟨m, h1, h2, h3⟩ := it_back h hx
 obtain ⟨a, b, c, d⟩ := least_spec (p := fun m => it f m x == x) (n := n) h1 h2 (by simpa using h3)
 refine ⟨a, by unfold per; omega, ?_, fun k hk hk2 => by simpa using d k hk hk2⟩
 have := eq_of_beq c
 exact this

theorem it_mul_per {n : Nat} {f : Nat → Nat} (h : Bij n f) {x : Nat} (hx : x < n) (q : Nat) : it f (per n f x * q) x = x := by
 induction q with
 | zero => rfl
 | succ q ih => rw [Nat.mul_succ, it_add, (per_spec h hx).2.2.1, ih]

theorem it_mod_per {n : Nat} {f : Nat → Nat} (h : Bij n f) {x : Nat} (hx : x < n) (m : Nat) : it f m x = it f (m % per n f x) x := by
 conv => lhs; rw [← Nat.mod_add_div m (per n f x)]
 rw [it_add, it_mul_per h hx]

/-- is i the least of its cycle? -/
def isMin (n : Nat) (f : Nat → Nat) (i : Nat) : Bool := (List.range n).all fun k => decide (i ≤ it f k i)

theorem isMin_iff {n : Nat} {f : Nat → Nat} (h : Bij n f) {i : Nat} (hi : i < n) : isMin n f i = true ↔ ∀ k, i ≤ it f k i := by
 unfold isMin
 rw [List.all_eq_true]
 constructor
 ·intro a k
  rw [it_mod_per h hi]
  have p := per_spec h hi
  have := a (k % per n f i) (by rw [mem_range]; have := Nat.mod_lt k p.1; omega)
  simpa using this
 ·intro a k _
  simpa using a k

/-- the points that f leads to from x -/
def orb (f : Nat → Nat) (x y : Nat) : Prop := ∃ k, it f k x = y

theorem orb_refl (f : Nat → Nat) (x : Nat) : orb f x x := ⟨0, rfl⟩

theorem orb_trans {f : Nat → Nat} {x y z : Nat} : orb f x y → orb f y z → orb f x z := by
 rintro ⟨a, rfl⟩ ⟨b, rfl⟩
 exact ⟨b + a, it_add f b a x⟩

theorem orb_symm {n : Nat} {f : Nat → Nat} (h : Bij n f) {x y : Nat} (hx : x < n) : orb f x y → orb f y x := by
 rintro ⟨k, rfl⟩
 have p := per_spec h hx
 refine ⟨per n f x - k % per n f x, ?_⟩
 rw [it_mod_per h hx k, ← it_add]
 have := Nat.mod_lt k p.1
 rw [show per n f x - k % per n f x + k % per n f x = per n f x by omega]
 exact p.2.2.1

/-- the cycle of x, from x on -/
def cyc (n : Nat) (f : Nat → Nat) (x : Nat) : List Nat := (List.range (per n f x)).map (fun k => it f k x)

theorem cyc_length (n : Nat) (f : Nat → Nat) (x : Nat) : (cyc n f x).length = per n f x := by simp [cyc]

theorem mem_cyc {n : Nat} {f : Nat → Nat} (h : Bij n f) {x y : Nat} (hx : x < n) : y ∈ cyc n f x ↔ orb f x y := by
 unfold cyc orb
 simp only [mem_map, mem_range]
 constructor
 ·rintro ⟨k, _, e⟩; exact ⟨k, e⟩
 ·rintro ⟨k, e⟩
  exact ⟨k % per n f x, Nat.mod_lt _ (per_spec h hx).1, by rw [← it_mod_per h hx]; exact e⟩

theorem it_inj_per {n : Nat} {f : Nat → Nat} (h : Bij n f) {x : Nat} (hx : x < n) {a b : Nat} (ha : a < per n f x) (hb : b < per n f x) (e : it f a x = it f b x) : a = b := by
 have key : ∀ a b, a < b → b < per n f x → it f a x = it f b x → False := by
  intro a b hab hb e
  have : it f (a + (b - a)) x = it f a (it f (b - a) x) := it_add ..
  rw [show a + (b - a) = b by omega, ← e] at this
  exact (per_spec h hx).2.2.2 (b - a) (by omega) (by omega) (it_inj h a hx (it_lt h _ hx) this).symm
 rcases Nat.lt_trichotomy a b with c | c | c
 ·exact (key a b c hb e).elim
 ·exact c
 ·exact (key b a c ha e.symm).elim

theorem isMin_iff' {n : Nat} {f : Nat → Nat} (h : Bij n f) {i : Nat} (hi : i < n) : isMin n f i = true ↔ ∀ j, j < i → ¬ orb f j i := by
 rw [isMin_iff h hi]
 constructor
 ·rintro a j hj ⟨k, e⟩
  obtain ⟨k', e'⟩ := orb_symm h (by omega : j < n) ⟨k, e⟩
  have := a k'
  omega
 ·intro a k
  apply Nat.le_of_not_lt
  intro hlt
  exact a _ hlt (orb_symm h hi ⟨k, rfl⟩)

/-- the least points of the cycles -/
def mins (n : Nat) (f : Nat → Nat) : List Nat := (List.range n).filter (isMin n f)

theorem mem_mins {n : Nat} {f : Nat → Nat} {i : Nat} : i ∈ mins n f ↔ i < n ∧ isMin n f i = true := by
 unfold mins; rw [mem_filter, mem_range]

/-- the least point of the cycle of x -/
theorem min_of {n : Nat} {f : Nat → Nat} (h : Bij n f) {x : Nat} (hx : x < n) : ∃ m, m < n ∧ isMin n f m = true ∧ orb f m x ∧ m ≤ x := by
 induction x using Nat.strongRecOn with
 | _ x ih =>
  by_cases c : isMin n f x = true
  ·exact ⟨x, hx, c, orb_refl f x, Nat.le_refl _⟩
  ·rw [isMin_iff' h hx] at c
   have : ∃ j, j < x ∧ orb f j x := by
    apply Classical.byContradiction
    intro d
    exact c fun j hj e => d ⟨j, hj, e⟩
   obtain ⟨j, hj, o⟩ := this
   obtain ⟨m, h1, h2, h3, h4⟩ := ih j hj (by omega)
   exact ⟨m, h1, h2, orb_trans h3 o, by omega⟩

theorem per_eq {n : Nat} {f : Nat → Nat} (h : Bij n f) {x m : Nat} (hx : x < n) (h0 : 0 < m) (h1 : it f m x = x) (h2 : ∀ k, 0 < k → k < m → it f k x ≠ x) : per n f x = m := by
 have p := per_spec h hx
 rcases Nat.lt_trichotomy (per n f x) m with c | c | c
 ·exact (h2 _ p.1 c p.2.2.1).elim
 ·exact c
 ·exact (p.2.2.2 m h0 c h1).elim

/-- all points of a cycle have one period -/
theorem per_it {n : Nat} {f : Nat → Nat} (h : Bij n f) {x : Nat} (hx : x < n) (a : Nat) : per n f (it f a x) = per n f x := by
 have p := per_spec h hx
 refine per_eq h (it_lt h a hx) p.1 ?_ ?_
 ·rw [← it_add, Nat.add_comm, it_add, p.2.2.1]
 ·intro k hk hk2 e
  rw [← it_add, Nat.add_comm, it_add] at e
  exact p.2.2.2 k hk hk2 (it_inj h a (it_lt h k hx) hx e)

theorem per_orb {n : Nat} {f : Nat → Nat} (h : Bij n f) {x y : Nat} (hx : x < n) (o : orb f x y) : per n f y = per n f x := by
 obtain ⟨k, rfl⟩ := o; exact per_it h hx k
end Go.Proofs.YtieaplnngmgkeaaDoor.Sm
namespace Go.Proofs.YtieaplnngmgkeaaDoor.R
open Go.RowKit Go.Proofs.YtieaplnngmgkeaaDoorW.PrintWords Go.Proofs.YtieaplnngmgkeaaDoorW.PrintLast Go.Proofs.YtieaplnngmgkeaaDoorW.PrintMore Go.Proofs.YtieaplnngmgkeaaDoor.F Go.Proofs.YtieaplnngmgkeaaDoor.Sm
theorem Ev.pos {α : Type} {c : Prop} [Decidable c] {A B : Nat → Option α} {r : α} (h : c) (k : Ev A r) : Ev (fun n => if c then A n else B n) r := by
 simp only [if_pos h]; exact k

theorem Ev.neg {α : Type} {c : Prop} [Decidable c] {A B : Nat → Option α} {r : α} (h : ¬ c) (k : Ev B r) : Ev (fun n => if c then A n else B n) r := by
 simp only [if_neg h]; exact k

theorem Ev.bind1 {α β : Type} {g : Nat → Option α} {f : Nat → α → Option β} {a : α} {r : β} (h : Ev g a) (k : Ev (fun n => f n a) r) : Ev (fun n => (g n).bind (f n)) r := Ev.bind h k

theorem Ev.some1 {α β : Type} {f : Nat → α → Option β} {a : α} {r : β} (k : Ev (fun n => f n a) r) : Ev (fun n => (some a).bind (f n)) r := k

theorem wrap_nat {i : Nat} (h : i < 9223372036854775807) : wrap64 ((i : Int) + 1) = ((i + 1 : Nat) : Int) := by unfold wrap64; omega

theorem wrap_in {n : Int} (h1 : -9223372036854775808 ≤ n) (h2 : n ≤ 9223372036854775807) : wrap64 n = n := by unfold wrap64; omega

theorem rd_get {l : List Int} {i : Nat} (h : i < l.length) : rd l (i : Int) = l[i] := by
 unfold rd; simp [h]

theorem rd_pm {n : Nat} {f : Nat → Nat} {i : Nat} (h : i < n) : rd (pm n f) (i : Int) = (f i : Int) := by
 unfold rd; exact pm_getD n f i h

/-- a list that is a permutation -/
def IsPerm (n : Nat) (l : List Int) (f : Nat → Nat) : Prop := 1 ≤ n ∧ n ≤ 12 ∧ Bij n f ∧ l = pm n f

theorem valid_iff (l : List Int) : impl_PermValid.validB l = true ↔ ∃ f, IsPerm l.length l f := by
 unfold impl_PermValid.validB
 simp only [Bool.and_eq_true, decide_eq_true_eq, List.all_eq_true, List.mem_range]
 constructor
 ·rintro ⟨⟨h1, h2⟩, h3⟩
  have h3' : ∀ i, i < l.length → 0 ≤ rd l i ∧ rd l i < l.length ∧ ∀ j, j < i → rd l j ≠ rd l i := by
   intro i hi
   have := h3 i hi
   unfold impl_PermValid.okAt at this
   simp only [Bool.and_eq_true, decide_eq_true_eq, Bool.not_eq_true', List.contains_eq_mem, decide_eq_false_iff_not] at this
   refine ⟨this.1.1, this.1.2, fun j hj e => this.2 ?_⟩
   rw [← e, rd_get (show j < l.length by omega)]
   rw [List.mem_iff_getElem]
   exact ⟨j, by simp; omega, by simp⟩
  refine ⟨fun i => (rd l i).toNat, h1, h2, ⟨fun i hi => by have := h3' i hi; show (rd l i).toNat < _; omega, fun i j hi hj e => ?_⟩, ?_⟩
  ·have a := h3' i hi
   have b := h3' j hj
   have e' : (rd l i).toNat = (rd l j).toNat := e
   rcases Nat.lt_trichotomy i j with c | c | c
   ·exact (b.2.2 i c (by omega)).elim
   ·exact c
   ·exact (a.2.2 j c (by omega)).elim
  ·refine eq_pm _ _ _ rfl fun i hi => ?_
   have := h3' i hi
   show l.getD i 0 = (((rd l i).toNat : Nat) : Int)
   have e : l.getD i 0 = rd l i := rfl
   omega
 ·rintro ⟨f, h1, h2, hf, e⟩
  refine ⟨⟨h1, h2⟩, fun i hi => ?_⟩
  have r : ∀ j, j < l.length → rd l j = (f j : Int) := fun j hj => by
   have := rd_pm (n := l.length) (f := f) hj
   rwa [← e] at this
  unfold impl_PermValid.okAt
  simp only [Bool.and_eq_true, decide_eq_true_eq, Bool.not_eq_true', List.contains_eq_mem, decide_eq_false_iff_not]
  refine ⟨⟨by rw [r i hi]; omega, by rw [r i hi]; have := hf.1 i hi; omega⟩, fun hm => ?_⟩
  rw [List.mem_iff_getElem] at hm
  obtain ⟨j, hj, ej⟩ := hm
  have hj' : j < i := by simp at hj; omega
  have : l[j]'(by omega) = rd l i := by simpa using ej
  rw [← rd_get (show j < l.length by omega), r i hi, r j (by omega)] at this
  have := hf.2 j i (by omega) hi (by omega)
  omega

theorem implValid_ev (l : List Int) : Ev (fun _ => impl_PermValid.f l) (impl_PermValid.validB l) := Ev.now _

/-- the reference's look: up to i all is well -/
theorem specValid_ev (l : List Int) (hl : l.length ≤ 4294967296) : Ev (fun k => spec_PermValid.f k l) (impl_PermValid.validB l) := by
 have e0 : ∀ (a b c : Int), spec_l6In.f a b c = some (decide (b ≤ a) && decide (a ≤ c)) := by
  intro a b c
  unfold spec_l6In.f
  by_cases h : b ≤ a
  ·rw [if_pos h]; simp [h]
  ·rw [if_neg h]; simp [h]
 -- the inner loop
 have inner : ∀ d i j, i < l.length → j + d = i → (∀ m, m < j → rd l m ≠ rd l i) → ∀ r, ((∀ m, m < i → rd l m ≠ rd l i) → Ev (fun k => spec_PermValid.l0 k l ((i + 1 : Nat) : Int)) r) → ((∃ m, m < i ∧ rd l m = rd l i) → r = false) → Ev (fun k => spec_PermValid.l1 k l (i : Int) (j : Int)) r := by
  intro d
  induction d with
  | zero =>
   intro i j hi hj hm r h1 h2
   refine Ev.step (f := fun k => spec_PermValid.l0 k l ((i + 1 : Nat) : Int)) (fun k => by rw [spec_PermValid.l1, if_neg (by omega), wrap_nat (by omega)]) ?_
   exact h1 (fun m hmi => hm m (by omega))
  | succ d ih =>
   intro i j hi hj hm r h1 h2
   by_cases c : rd l (j : Int) = rd l (i : Int)
   ·have := h2 ⟨j, by omega, c⟩
    subst this
    refine Ev.step (f := fun k => some false) (fun k => by
     rw [spec_PermValid.l1, if_pos (by omega), if_pos (by omega), if_pos (by omega), if_pos (by omega), if_pos (by omega), if_pos c]) (Ev.now _)
   ·refine Ev.step (f := fun k => spec_PermValid.l1 k l (i : Int) ((j + 1 : Nat) : Int)) (fun k => by
     rw [spec_PermValid.l1, if_pos (by omega), if_pos (by omega), if_pos (by omega), if_pos (by omega), if_pos (by omega), if_neg c, wrap_nat (by omega)]) ?_
    refine ih i (j + 1) hi (by omega) (fun m hm' => ?_) r h1 h2
    by_cases e : m = j
    ·subst e; exact c
    ·exact hm m (by omega)
 have outer : ∀ d i, i + d = l.length → (∀ m, m < i → impl_PermValid.okAt l m = true) → Ev (fun k => spec_PermValid.l0 k l (i : Int)) (impl_PermValid.validB l) := by
  intro d
  induction d with
  | zero =>
   intro i hi hm
   have e : impl_PermValid.validB l = (decide ((1 : Int) ≤ (l.length : Int)) && decide ((l.length : Int) ≤ 12)) := by
    unfold impl_PermValid.validB
    have : (List.range l.length).all (impl_PermValid.okAt l) = true := by
     rw [List.all_eq_true]; intro m hm'; exact hm m (by have := List.mem_range.1 hm'; omega)
    rw [this]
    rw [Bool.and_true]
    congr 1
    ·simp; omega
    ·simp; omega
   refine Ev.step (f := fun _ => some (impl_PermValid.validB l)) (fun k => by rw [spec_PermValid.l0, if_neg (by omega), e0, e]; rfl) (Ev.now _)
  | succ d ih =>
   intro i hi hm
   have hil : i < l.length := by omega
   have fail : impl_PermValid.okAt l i = false → impl_PermValid.validB l = false := impl_PermValid.valid_fail l i hil
   have ew : wrap64 ((l.length : Int) - 1) = (l.length : Int) - 1 := wrap_in (by omega) (by omega)
   by_cases c : 0 ≤ rd l (i : Int) ∧ rd l (i : Int) ≤ (l.length : Int) - 1
   ·refine Ev.step (f := fun k => spec_PermValid.l1 k l (i : Int) ((0 : Nat) : Int)) (fun k => by
     rw [spec_PermValid.l0, if_pos (by omega), if_pos (by omega), e0, ew]
     simp only [Option.bind_some]
     rw [if_pos (by simp [c.1, c.2])]; rfl) ?_
    refine inner i i 0 hil (by omega) (fun m hm' => absurd hm' (by omega)) _ (fun hd => ?_) (fun hd => ?_)
    ·refine ih (i + 1) (by omega) (fun m hm' => ?_)
     by_cases e : m = i
     ·subst e
      unfold impl_PermValid.okAt
      simp only [Bool.and_eq_true, decide_eq_true_eq, Bool.not_eq_true', List.contains_eq_mem, decide_eq_false_iff_not]
      refine ⟨⟨c.1, by omega⟩, fun hx => ?_⟩
      rw [List.mem_iff_getElem] at hx
      obtain ⟨j, hj, ej⟩ := hx
      have hj' : j < m := by simp at hj; omega
      have : l[j]'(by omega) = rd l m := by simpa using ej
      rw [← rd_get (show j < l.length by omega)] at this
      exact hd j hj' this
     ·exact hm m (by omega)
    ·obtain ⟨m, hmi, em⟩ := hd
     apply fail
     unfold impl_PermValid.okAt
     have : (l.take i).contains (rd l i) = true := by
      rw [List.contains_eq_mem, decide_eq_true_eq, ← em, rd_get (show m < l.length by omega), List.mem_iff_getElem]
      exact ⟨m, by simp; omega, by simp⟩
     simp only [this, Bool.not_true, Bool.and_false]
   ·have : impl_PermValid.validB l = false := by
     apply fail
     unfold impl_PermValid.okAt
     by_cases c1 : 0 ≤ rd l (i : Int)
     ·have : ¬ rd l (i : Int) < l.length := by omega
      simp [this]
     ·simp [c1]
    rw [this]
    refine Ev.step (f := fun k => some false) (fun k => by
     rw [spec_PermValid.l0, if_pos (by omega), if_pos (by omega), e0, ew]
     simp only [Option.bind_some]
     rw [if_neg]
     simp only [Bool.and_eq_true, decide_eq_true_eq]
     exact c) (Ev.now _)
 unfold spec_PermValid.f
 exact outer l.length 0 (by omega) (fun m hm => absurd hm (by omega))

theorem rd_set {s : List Int} {a b : Nat} {v : Int} (h : a < s.length) : rd (s.set a v) (b : Int) = if a = b then v else rd s (b : Int) := by
 unfold rd
 simp only [Int.toNat_natCast, List.getD_eq_getElem?_getD, List.getElem?_set]
 by_cases e : a = b
 ·subst e; simp [h]
 ·simp [e]

theorem eq_pm' {n : Nat} {f : Nat → Nat} {l : List Int} (hl : l.length = n) (h : ∀ i, i < n → rd l (i : Int) = (f i : Int)) : l = pm n f :=
 eq_pm n f l hl fun i hi => by have := h i hi; unfold rd at this; simpa using this

theorem sameInts_loop (a b : List Int) (hl : a.length = b.length) (hb : a.length ≤ 4294967296) : ∀ d i, i + d = a.length → Ev (fun k => laws_sameInts.l0 k a b (i : Int)) (decide (a.drop i = b.drop i)) := by
 intro d
 induction d with
 | zero =>
  intro i hi
  refine Ev.step (f := fun _ => some true) (fun k => by rw [laws_sameInts.l0, if_neg (by omega)]) ?_
  rw [List.drop_of_length_le (by omega), List.drop_of_length_le (by omega)]
  exact Ev.now _
 | succ d ih =>
  intro i hi
  have ha : i < a.length := by omega
  have hb' : i < b.length := by omega
  rw [List.drop_eq_getElem_cons ha, List.drop_eq_getElem_cons hb']
  by_cases c : a[i] = b[i]
  ·refine Ev.step (f := fun k => laws_sameInts.l0 k a b ((i + 1 : Nat) : Int)) (fun k => by
    rw [laws_sameInts.l0, if_pos (by omega), if_pos (by omega), if_pos (by omega), rd_get ha, rd_get hb', if_pos c, wrap_nat (by omega)]) ?_
   have e : decide (a[i] :: a.drop (i + 1) = b[i] :: b.drop (i + 1)) = decide (a.drop (i + 1) = b.drop (i + 1)) := by
    simp only [List.cons.injEq, c, true_and]
   rw [e]
   exact ih (i + 1) (by omega)
  ·refine Ev.step (f := fun k => some false) (fun k => by
    rw [laws_sameInts.l0, if_pos (by omega), if_pos (by omega), if_pos (by omega), rd_get ha, rd_get hb', if_neg c]) ?_
   have : decide (a[i] :: a.drop (i + 1) = b[i] :: b.drop (i + 1)) = false := by
    simp only [List.cons.injEq, c, false_and, decide_false]
   rw [this]
   exact Ev.now _

theorem sameInts_ev {a b : List Int} (hb : a.length ≤ 4294967296) : Ev (fun k => laws_sameInts.f k a b) (decide (a = b)) := by
 unfold laws_sameInts.f
 by_cases c : a.length = b.length
 ·refine Ev.pos (by omega) ?_
  exact sameInts_loop a b c hb a.length 0 (by omega)
 ·have : decide (a = b) = false := by simp; intro e; exact c (by rw [e])
  rw [this]
  exact Ev.neg (by omega) (Ev.now _)

theorem still_ev {n : Nat} (hn : n ≤ 1000) : Ev (fun k => impl_still.f k (n : Int)) (pm n fun i => i) := by
 have loop : ∀ d i (s : List Int), i + d = n → s.length = n → (∀ j, j < i → rd s (j : Int) = (j : Int)) → Ev (fun k => impl_still.l0 k s (n : Int) (i : Int)) (pm n fun i => i) := by
  intro d
  induction d with
  | zero =>
   intro i s hi hs h
   refine Ev.step (f := fun _ => some s) (fun k => by rw [impl_still.l0, if_neg (by omega)]) ?_
   rw [eq_pm' (f := fun i => i) hs (fun j hj => h j (by omega))]
   exact Ev.now _
  | succ d ih =>
   intro i s hi hs h
   refine Ev.step (f := fun k => impl_still.l0 k (s.set i (i : Int)) (n : Int) ((i + 1 : Nat) : Int)) (fun k => by
    rw [impl_still.l0, if_pos (by omega), if_pos (by omega), if_pos (by omega), wrap_nat (by omega)]; rfl) ?_
   refine ih (i + 1) _ (by omega) (by simp [hs]) (fun j hj => ?_)
   rw [rd_set (by omega)]
   by_cases e : i = j
   ·rw [if_pos e, e]
   ·rw [if_neg e]; exact h j (by omega)
 unfold impl_still.f
 refine Ev.pos (by omega) (Ev.pos (by omega) ?_)
 have := loop n 0 (List.replicate n 0) (by omega) (by simp) (fun j hj => absurd hj (by omega))
 simpa using this

theorem l1Same_ev {n : Nat} (hn : n ≤ 1000) : Ev (fun k => spec_l1Same.f k (n : Int)) (pm n fun i => i) := by
 have loop : ∀ d i, i + d = n → Ev (fun k => spec_l1Same.l0 k (n : Int) (pm i fun i => i) (i : Int)) (pm n fun i => i) := by
  intro d
  induction d with
  | zero =>
   intro i hi
   have e : i = n := by omega
   subst e
   exact Ev.step (f := fun _ => some (pm i fun i => i)) (fun k => by rw [spec_l1Same.l0, if_neg (by omega)]) (Ev.now _)
  | succ d ih =>
   intro i hi
   refine Ev.step (f := fun k => spec_l1Same.l0 k (n : Int) (pm (i + 1) fun i => i) ((i + 1 : Nat) : Int)) (fun k => by
    rw [spec_l1Same.l0, if_pos (by omega), if_pos (by rw [pm_length]; omega), wrap_nat (by omega)]
    simp [pm, List.range_succ]) (ih (i + 1) (by omega))
 unfold spec_l1Same.f
 exact loop n 0 (by omega)

def ints (l : List Nat) : List Int := l.map fun (x : Nat) => (x : Int)

def cycsTo (n : Nat) (f : Nat → Nat) (i : Nat) : List (List Int) := ((List.range i).filter (isMin n f)).map fun m => ints (cyc n f m)

/-- all cycles, as lists of numbers -/
def cycsL (n : Nat) (f : Nat → Nat) : List (List Int) := cycsTo n f n

theorem cycsTo_len (n : Nat) (f : Nat → Nat) (i : Nat) : (cycsTo n f i).length ≤ i := by
 unfold cycsTo
 rw [List.length_map]
 have := List.length_filter_le (isMin n f) (List.range i)
 simpa using this

def seenTo (n : Nat) (f : Nat → Nat) (i : Nat) (s : List Bool) : Prop := s.length = n ∧ ∀ x, x < n → (rdOf false s (x : Int) = true ↔ ∃ j, j < i ∧ orb f j x)

def seenIn (n : Nat) (f : Nat → Nat) (i k : Nat) (s : List Bool) : Prop := s.length = n ∧ ∀ x, x < n → (rdOf false s (x : Int) = true ↔ (∃ j, j < i ∧ orb f j x) ∨ ∃ m, m < k ∧ it f m i = x)

theorem rdOf_set {s : List Bool} {a b : Nat} {v : Bool} (h : a < s.length) : rdOf false (s.set a v) (b : Int) = if a = b then v else rdOf false s (b : Int) := by
 unfold rdOf
 simp only [Int.toNat_natCast, List.getD_eq_getElem?_getD, List.getElem?_set]
 by_cases e : a = b
 ·subst e; simp [h]
 ·simp [e]

theorem seen_start (n : Nat) (f : Nat → Nat) : seenTo n f 0 (List.replicate n false) := by
 refine ⟨by simp, fun x hx => ?_⟩
 unfold rdOf
 constructor
 ·intro h; simp [List.getD_eq_getElem?_getD, hx] at h
 ·rintro ⟨j, hj, _⟩; omega

theorem seen_in {n : Nat} {f : Nat → Nat} {i : Nat} {s : List Bool} (h : seenTo n f i s) : seenIn n f i 0 s :=
 ⟨h.1, fun x hx => by rw [h.2 x hx]; exact ⟨.inl, fun e => e.elim id (fun ⟨m, hm, _⟩ => absurd hm (by omega))⟩⟩

theorem seen_step {n : Nat} {f : Nat → Nat} (hf : Bij n f) {i k : Nat} (hi : i < n) {s : List Bool} (h : seenIn n f i k s) : seenIn n f i (k + 1) (s.set (it f k i) true) := by
 have hk := it_lt hf k hi
 refine ⟨by simp [h.1], fun x hx => ?_⟩
 rw [rdOf_set (by rw [h.1]; exact hk)]
 by_cases e : it f k i = x
 ·rw [if_pos e]
  exact ⟨fun _ => .inr ⟨k, by omega, e⟩, fun _ => rfl⟩
 ·rw [if_neg e, h.2 x hx]
  constructor
  ·rintro (a | ⟨m, hm, b⟩)
   ·exact .inl a
   ·exact .inr ⟨m, by omega, b⟩
  ·rintro (a | ⟨m, hm, b⟩)
   ·exact .inl a
   ·refine .inr ⟨m, ?_, b⟩
    apply Nat.lt_of_le_of_ne (by omega)
    intro d; subst d; exact e b

theorem seen_end {n : Nat} {f : Nat → Nat} (hf : Bij n f) {i : Nat} (hi : i < n) {s : List Bool} (h : seenIn n f i (per n f i) s) : seenTo n f (i + 1) s := by
 refine ⟨h.1, fun x hx => ?_⟩
 rw [h.2 x hx]
 constructor
 ·rintro (⟨j, hj, o⟩ | ⟨m, hm, e⟩)
  ·exact ⟨j, by omega, o⟩
  ·exact ⟨i, by omega, m, e⟩
 ·rintro ⟨j, hj, o⟩
  by_cases e : j = i
  ·subst e
   obtain ⟨m, em⟩ := o
   exact .inr ⟨m % per n f j, Nat.mod_lt _ (per_spec hf hi).1, by rw [← it_mod_per hf hi]; exact em⟩
  ·exact .inl ⟨j, by omega, o⟩

theorem seen_skip {n : Nat} {f : Nat → Nat} (hf : Bij n f) {i : Nat} (hi : i < n) {s : List Bool} (h : seenTo n f i s) (hs : rdOf false s (i : Int) = true) : seenTo n f (i + 1) s := by
 refine ⟨h.1, fun x hx => ?_⟩
 rw [h.2 x hx]
 obtain ⟨j, hj, o⟩ := (h.2 i hi).1 hs
 constructor
 ·rintro ⟨j, hj, o⟩; exact ⟨j, by omega, o⟩
 ·rintro ⟨j', hj', o'⟩
  by_cases e : j' = i
  ·subst e; exact ⟨j, hj, orb_trans o o'⟩
  ·exact ⟨j', by omega, o'⟩

theorem seen_min {n : Nat} {f : Nat → Nat} (hf : Bij n f) {i : Nat} (hi : i < n) {s : List Bool} (h : seenTo n f i s) : rdOf false s (i : Int) = !isMin n f i := by
 rw [Bool.eq_iff_iff, h.2 i hi, Bool.not_eq_true']
 constructor
 ·rintro ⟨j, hj, o⟩
  apply Bool.eq_false_iff.2
  intro m
  exact (isMin_iff' hf hi).1 m j hj o
 ·intro m
  apply Classical.byContradiction
  intro c
  have : isMin n f i = true := (isMin_iff' hf hi).2 fun j hj o => c ⟨j, hj, o⟩
  rw [m] at this; cases this

theorem seen_new {n : Nat} {f : Nat → Nat} (hf : Bij n f) {i k : Nat} (hi : i < n) {s : List Bool} (h : seenIn n f i k s) (hm : isMin n f i = true) (hk : k < per n f i) : rdOf false s (it f k i : Int) = false := by
 apply Bool.eq_false_iff.2
 intro c
 rcases (h.2 _ (it_lt hf k hi)).1 c with ⟨j, hj, o⟩ | ⟨m, hmk, e⟩
 ·exact (isMin_iff' hf hi).1 hm j hj (orb_trans o (orb_symm hf hi ⟨k, rfl⟩))
 ·have := it_inj_per hf hi (by omega) hk e
  omega

theorem seen_old {n : Nat} {f : Nat → Nat} (hf : Bij n f) {i : Nat} (hi : i < n) {s : List Bool} (h : seenIn n f i (per n f i) s) : rdOf false s (it f (per n f i) i : Int) = true := by
 have p := per_spec hf hi
 rw [p.2.2.1]
 exact (h.2 i hi).2 (.inr ⟨0, p.1, rfl⟩)

theorem cycsTo_succ (n : Nat) (f : Nat → Nat) (i : Nat) : cycsTo n f (i + 1) = if isMin n f i = true then cycsTo n f i ++ [ints (cyc n f i)] else cycsTo n f i := by
 unfold cycsTo
 rw [List.range_succ, List.filter_append, List.map_append]
 by_cases c : isMin n f i = true
 ·simp [c]
 ·simp [c]

def cycTo (f : Nat → Nat) (i k : Nat) : List Int := ints ((List.range k).map fun m => it f m i)

theorem cycTo_succ (f : Nat → Nat) (i k : Nat) : cycTo f i (k + 1) = cycTo f i k ++ [(it f k i : Int)] := by simp [cycTo, ints, List.range_succ]

theorem cycTo_len (f : Nat → Nat) (i k : Nat) : (cycTo f i k).length = k := by simp [cycTo, ints]

theorem implCycles_ev {n : Nat} {f : Nat → Nat} (hn : n ≤ 1000) (hf : Bij n f) : Ev (fun k => impl_cyclesOf.f k (pm n f)) (cycsL n f) := by
 have outer : ∀ d i (s : List Bool), i + d = n → seenTo n f i s → Ev (fun k => impl_cyclesOf.l0 k (pm n f) (cycsTo n f i) s (n : Int) (i : Int)) (cycsL n f) := by
  intro d
  induction d with
  | zero =>
   intro i s hi hs
   have e : i = n := by omega
   subst e
   exact Ev.step (f := fun _ => some (cycsTo i f i)) (fun k => by rw [impl_cyclesOf.l0, if_neg (by omega)]) (Ev.now _)
  | succ d ih =>
   intro i s hi hs
   have hin : i < n := by omega
   have cl := cycsTo_len n f i
   refine Ev.step (f := fun k => impl_cyclesOf.l1 k (pm n f) (cycsTo n f i) s [] (i : Int) (n : Int) (i : Int)) (fun k => by rw [impl_cyclesOf.l0, if_pos (by omega)]) ?_
   by_cases hm : isMin n f i = true
   ·have inner : ∀ e k (s : List Bool), k + e = per n f i → seenIn n f i k s → Ev (fun q => impl_cyclesOf.l1 q (pm n f) (cycsTo n f i) s (cycTo f i k) (it f k i : Int) (n : Int) (i : Int)) (cycsL n f) := by
     intro e
     induction e with
     | zero =>
      intro k s hk hs
      have ek : k = per n f i := by omega
      subst ek
      have p := per_spec hf hin
      have ho := seen_old hf hin hs
      refine Ev.step (f := fun q => impl_cyclesOf.l0 q (pm n f) (cycsTo n f (i + 1)) s (n : Int) ((i + 1 : Nat) : Int)) (fun q => by
       rw [impl_cyclesOf.l1, if_pos (by omega), if_pos (by rw [hs.1]; have := it_lt hf (per n f i) hin; omega), if_pos ho, if_pos (by rw [cycTo_len]; omega), if_pos (by omega), wrap_nat (by omega), cycsTo_succ, if_pos hm]; rfl) ?_
      exact ih (i + 1) s (by omega) (seen_end hf hin hs)
     | succ e ihe =>
      intro k s hk hs
      have hkn := it_lt hf k hin
      have p := per_spec hf hin
      have hnew := seen_new hf hin hs hm (by omega)
      refine Ev.step (f := fun q => impl_cyclesOf.l1 q (pm n f) (cycsTo n f i) (s.set (it f k i) true) (cycTo f i (k + 1)) (it f (k + 1) i : Int) (n : Int) (i : Int)) (fun q => by
       rw [impl_cyclesOf.l1, if_pos (by omega), if_pos (by rw [hs.1]; omega), if_neg (by rw [hnew]; simp), if_pos (by rw [cycTo_len]; omega), if_pos (by rw [pm_length]; omega), rd_pm hkn, cycTo_succ]; rfl) ?_
      exact ihe (k + 1) _ (by omega) (seen_step hf hin hs)
    exact inner (per n f i) 0 s (by omega) (seen_in hs)
   ·have ht : rdOf false s (i : Int) = true := by rw [seen_min hf hin hs]; simp [hm]
    refine Ev.step (f := fun q => impl_cyclesOf.l0 q (pm n f) (cycsTo n f (i + 1)) s (n : Int) ((i + 1 : Nat) : Int)) (fun q => by
     rw [impl_cyclesOf.l1, if_pos (by omega), if_pos (by rw [hs.1]; omega), if_pos ht, if_neg (by simp), wrap_nat (by omega), cycsTo_succ, if_neg hm]) ?_
    exact ih (i + 1) s (by omega) (seen_skip hf hin hs ht)
 unfold impl_cyclesOf.f
 simp only [pm_length]
 refine Ev.pos (by omega) (Ev.pos (by omega) ?_)
 have := outer n 0 _ (by omega) (seen_start n f)
 simpa [cycsTo] using this

theorem specCycles_ev {n : Nat} {f : Nat → Nat} (hn : n ≤ 1000) (hf : Bij n f) : Ev (fun k => spec_l1Cycles.f k (pm n f)) (cycsL n f) := by
 have outer : ∀ d i (s : List Bool), i + d = n → seenTo n f i s → Ev (fun k => spec_l1Cycles.l0 k (pm n f) (cycsTo n f i) s (i : Int)) (cycsL n f) := by
  intro d
  induction d with
  | zero =>
   intro i s hi hs
   have e : i = n := by omega
   subst e
   exact Ev.step (f := fun _ => some (cycsTo i f i)) (fun k => by rw [spec_l1Cycles.l0, if_neg (by rw [pm_length]; omega)]) (Ev.now _)
  | succ d ih =>
   intro i s hi hs
   have hin : i < n := by omega
   have cl := cycsTo_len n f i
   by_cases hm : isMin n f i = true
   ·have hnew : rdOf false s (i : Int) = false := by rw [seen_min hf hin hs]; simp [hm]
    refine Ev.step (f := fun k => spec_l1Cycles.l1 k (pm n f) (cycsTo n f i) s (i : Int) [] (i : Int)) (fun k => by
     rw [spec_l1Cycles.l0, if_pos (by rw [pm_length]; omega), if_pos (by omega), if_pos (by rw [hs.1]; omega), if_neg (by rw [hnew]; simp)]) ?_
    have inner : ∀ e k (s : List Bool), k + e = per n f i → seenIn n f i k s → Ev (fun q => spec_l1Cycles.l1 q (pm n f) (cycsTo n f i) s (i : Int) (cycTo f i k) (it f k i : Int)) (cycsL n f) := by
     intro e
     induction e with
     | zero =>
      intro k s hk hs
      have ek : k = per n f i := by omega
      subst ek
      have p := per_spec hf hin
      have ho := seen_old hf hin hs
      refine Ev.step (f := fun q => spec_l1Cycles.l0 q (pm n f) (cycsTo n f (i + 1)) s ((i + 1 : Nat) : Int)) (fun q => by
       rw [spec_l1Cycles.l1, if_pos (by omega), if_pos (by rw [hs.1]; have := it_lt hf (per n f i) hin; omega), if_pos ho, if_pos (by omega), wrap_nat (by omega), cycsTo_succ, if_pos hm]; rfl) ?_
      exact ih (i + 1) s (by omega) (seen_end hf hin hs)
     | succ e ihe =>
      intro k s hk hs
      have hkn := it_lt hf k hin
      have p := per_spec hf hin
      have hnew := seen_new hf hin hs hm (by omega)
      refine Ev.step (f := fun q => spec_l1Cycles.l1 q (pm n f) (cycsTo n f i) (s.set (it f k i) true) (i : Int) (cycTo f i (k + 1)) (it f (k + 1) i : Int)) (fun q => by
       rw [spec_l1Cycles.l1, if_pos (by omega), if_pos (by rw [hs.1]; omega), if_neg (by rw [hnew]; simp), if_pos (by rw [cycTo_len]; omega), if_pos (by rw [pm_length]; omega), rd_pm hkn, cycTo_succ]; rfl) ?_
      exact ihe (k + 1) _ (by omega) (seen_step hf hin hs)
    exact inner (per n f i) 0 s (by omega) (seen_in hs)
   ·have ht : rdOf false s (i : Int) = true := by rw [seen_min hf hin hs]; simp [hm]
    refine Ev.step (f := fun q => spec_l1Cycles.l0 q (pm n f) (cycsTo n f (i + 1)) s ((i + 1 : Nat) : Int)) (fun q => by
     rw [spec_l1Cycles.l0, if_pos (by rw [pm_length]; omega), if_pos (by omega), if_pos (by rw [hs.1]; omega), if_pos ht, wrap_nat (by omega), cycsTo_succ, if_neg hm]) ?_
    exact ih (i + 1) s (by omega) (seen_skip hf hin hs ht)
 unfold spec_l1Cycles.f
 simp only [pm_length]
 refine Ev.pos (by omega) (Ev.pos (by omega) ?_)
 have := outer n 0 _ (by omega) (seen_start n f)
 simpa [cycsTo] using this

theorem isPerm_len {n : Nat} {a : List Int} {f : Nat → Nat} (h : IsPerm n a f) : a.length = n := by rw [h.2.2.2, pm_length]

theorem isPerm_valid {n : Nat} {a : List Int} {f : Nat → Nat} (h : IsPerm n a f) : impl_PermValid.validB a = true :=
 (valid_iff a).2 ⟨f, by rw [isPerm_len h]; exact h⟩

theorem ints_len (l : List Nat) : (ints l).length = l.length := by simp [ints]

theorem ints_rd {l : List Nat} {i : Nat} (h : i < l.length) : rd (ints l) (i : Int) = (l[i] : Int) := by
 rw [rd_get (by rw [ints_len]; exact h)]; simp [ints]

theorem l6In_eq (a b c : Int) : spec_l6In.f a b c = some (decide (b ≤ a ∧ a ≤ c)) := by
 unfold spec_l6In.f
 by_cases h : b ≤ a
 ·rw [if_pos h]; simp [h]
 ·rw [if_neg h]; simp [h]

theorem xor_i64_nat (a b : Nat) (ha : a < 9223372036854775808) (hb : b < 9223372036854775808) : Go.bits .xor .i64 (a : Int) (b : Int) = ((a ^^^ b : Nat) : Int) := by
 have hx : a ^^^ b < 2 ^ 63 := Nat.xor_lt_two_pow (by omega) (by omega)
 have h1 : (BitVec.ofInt 64 (a : Int)).toNat = a := by
  rw [BitVec.ofInt_natCast, BitVec.toNat_ofNat]; exact Nat.mod_eq_of_lt (by omega)
 have h2 : (BitVec.ofInt 64 (b : Int)).toNat = b := by
  rw [BitVec.ofInt_natCast, BitVec.toNat_ofNat]; exact Nat.mod_eq_of_lt (by omega)
 show IntKind.i64.wrap ((BitVec.ofInt 64 (a : Int) ^^^ BitVec.ofInt 64 (b : Int)).toNat : Int) = _
 rw [BitVec.toNat_xor, h1, h2]
 simp [IntKind.wrap, IntKind.bits, IntKind.signed]
 omega

theorem xor_i64_pos {a b : Int} (h1 : 0 ≤ a) (h2 : a < 9223372036854775808) (h3 : 0 ≤ b) (h4 : b < 9223372036854775808) : 0 ≤ Go.bits .xor .i64 a b := by
 obtain ⟨m, rfl⟩ : ∃ m : Nat, a = m := ⟨a.toNat, by omega⟩
 obtain ⟨k, rfl⟩ : ∃ k : Nat, b = k := ⟨b.toNat, by omega⟩
 rw [xor_i64_nat _ _ (by omega) (by omega)]
 omega

/-- a code's bytes -/
def Bytes (s : List Int) : Prop := s.length ≤ 2000 ∧ ∀ x, x ∈ s → 0 ≤ x ∧ x ≤ 255

theorem Bytes.rd {s : List Int} (h : Bytes s) (i : Int) : 0 ≤ rd s i ∧ rd s i ≤ 255 := by
 unfold Go.Proofs.YtieaplnngmgkeaaDoorW.PrintWords.rd
 rw [List.getD_eq_getElem?_getD]
 cases e : s[i.toNat]? with
 | none => simp
 | some x => exact h.2 x (List.mem_of_getElem? e)

theorem tmod_in {a n : Int} (ha : 0 ≤ a) (hn : 1 ≤ n) : 0 ≤ Int.tmod a n ∧ Int.tmod a n < n := by
 rw [Int.tmod_eq_emod_of_nonneg ha]
 exact ⟨Int.emod_nonneg _ (by omega), Int.emod_lt_of_pos _ (by omega)⟩

theorem pick_ev {s : List Int} (hs : Bytes s) {p n : Int} (h0 : 0 ≤ p) (h1 : p ≤ 1000000000) (hn : n ≤ 1000000000) :
 ∃ v, Ev (fun k => spec_l6Rd_pick.f k s p n) (v, p + 1) ∧ 0 ≤ v ∧ v ≤ 1000000000 ∧ (1 ≤ n → v < n) := by
 have w1 : wrap64 (p + 1) = p + 1 := wrap_in (by omega) (by omega)
 have w2 : wrap64 (p + 1 - 1) = p := by rw [wrap_in (by omega) (by omega)]; omega
 unfold spec_l6Rd_pick.f
 by_cases c : n < 1
 ·refine ⟨0, Ev.pos c ?_, by omega, by omega, fun e => by omega⟩
  rw [w1]
  exact Ev.step (f := fun _ => some (0, p + 1)) (fun k => by rw [spec_l6Rd_pick.j0, if_pos rfl]) (Ev.now _)
 ·by_cases d : s.length = 0
  ·refine ⟨0, Ev.neg c ?_, by omega, by omega, fun e => by omega⟩
   rw [w1]
   have e : ((s.length : Int) == 0) = true := by simp [d]
   rw [e]
   exact Ev.step (f := fun _ => some (0, p + 1)) (fun k => by rw [spec_l6Rd_pick.j0, if_pos rfl]) (Ev.now _)
  ·have e : ((s.length : Int) == 0) = false := by
    exact beq_eq_false_iff_ne.mpr (by omega)
   have hl := hs.1
   by_cases f : p < s.length
   ·have r := hs.rd p
    have t := tmod_in (a := rd s p) (n := n) r.1 (by omega)
    refine ⟨Int.tmod (rd s p) n, Ev.neg c ?_, t.1, by omega, fun _ => t.2⟩
    rw [w1, e]
    refine Ev.step (f := fun _ => some (Int.tmod (rd s p) n, p + 1)) (fun k => by
     rw [spec_l6Rd_pick.j0, w2, if_neg (by simp), if_pos f, if_pos h0, if_neg (by omega), wrap_in (by omega) (by omega)]) (Ev.now _)
   ·have m1 := tmod_in (a := p) (n := (s.length : Int)) h0 (by omega)
    have w3 : wrap64 (p * 7) = p * 7 := wrap_in (by omega) (by omega)
    have w4 : wrap64 (p * 7 + 3) = p * 7 + 3 := wrap_in (by omega) (by omega)
    have m2 := tmod_in (a := p * 7 + 3) (n := (s.length : Int)) (by omega) (by omega)
    obtain ⟨A, hA⟩ : ∃ A, A = rd s (Int.tmod p (s.length : Int)) := ⟨_, rfl⟩
    obtain ⟨B, hB⟩ : ∃ B, B = rd s (Int.tmod (p * 7 + 3) (s.length : Int)) := ⟨_, rfl⟩
    have a1 : 0 ≤ A ∧ A ≤ 255 := by rw [hA]; exact hs.rd _
    have b1 : 0 ≤ B ∧ B ≤ 255 := by rw [hB]; exact hs.rd _
    obtain ⟨D, hD⟩ : ∃ D, D = Int.tdiv p (s.length : Int) := ⟨_, rfl⟩
    have d1 : 0 ≤ D ∧ D ≤ p := by
     rw [hD, Int.tdiv_eq_ediv_of_nonneg h0]
     exact ⟨Int.ediv_nonneg h0 (by omega), Int.ediv_le_self _ h0⟩
    obtain ⟨X, hX⟩ : ∃ X, X = A * 131 + B * 1117 + p * 29 + D * 53 := ⟨_, rfl⟩
    have x1 : 0 ≤ X ∧ X ≤ 100000000000 := by omega
    have y1 : 0 ≤ Int.tdiv X 64 ∧ Int.tdiv X 64 ≤ X := by
     rw [Int.tdiv_eq_ediv_of_nonneg x1.1]; omega
    have z := xor_i64_pos (a := X) (b := Int.tdiv X 64) x1.1 (by omega) y1.1 (by omega)
    have t := tmod_in (n := n) z (by omega)
    refine ⟨Int.tmod (Go.bits .xor .i64 X (Int.tdiv X 64)) n, Ev.neg c ?_, t.1, by omega, fun _ => t.2⟩
    rw [w1, e]
    refine Ev.step (f := fun _ => some (Int.tmod (Go.bits .xor .i64 X (Int.tdiv X 64)) n, p + 1)) (fun k => by
     rw [spec_l6Rd_pick.j0, w2, if_neg (by simp), if_neg f, if_neg (by omega), if_pos m1.1, if_pos m1.2, w3, w4, if_pos m2.1, if_pos m2.2, if_neg (by omega), ← hA, ← hB, ← hD]
     rw [wrap_in (n := A) (by omega) (by omega), wrap_in (n := B) (by omega) (by omega), wrap_in (n := A * 131) (by omega) (by omega), wrap_in (n := B * 1117) (by omega) (by omega), wrap_in (n := A * 131 + B * 1117) (by omega) (by omega), wrap_in (n := p * 29) (by omega) (by omega), wrap_in (n := A * 131 + B * 1117 + p * 29) (by omega) (by omega), wrap_in (n := D) (by omega) (by omega), wrap_in (n := D * 53) (by omega) (by omega), wrap_in (n := A * 131 + B * 1117 + p * 29 + D * 53) (by omega) (by omega), ← hX, wrap_in (n := Int.tdiv X 64) (by omega) (by omega)]) (Ev.now _)

theorem open_ev {l : List Int} (hw : ∀ x ∈ l, (Lit.int .u8 x).wf = true) : ∃ s, Bytes s ∧ Ev (fun _ => spec_l6Open.f l) (s, 0) := by
 have hb : ∀ x, x ∈ l → 0 ≤ x ∧ x ≤ 255 := by
  intro x hx
  have := hw x hx
  simp [Lit.wf, IntKind.min, IntKind.max, IntKind.signed, IntKind.bits] at this
  omega
 unfold spec_l6Open.f
 by_cases c : (l.length : Int) > 2000
 ·refine ⟨l.take 2000, ⟨by simp; omega, fun x hx => hb x (List.mem_of_mem_take hx)⟩, Ev.pos c (Ev.pos (by omega) (Ev.now _))⟩
 ·exact ⟨l, ⟨by omega, hb⟩, Ev.neg c (Ev.now _)⟩

/-- f with the point n put into the cycle ahead of k -/
def ins (n k : Nat) (f : Nat → Nat) (x : Nat) : Nat := if x = n then f k else if x = k then n else f x

theorem ins_bij {n k : Nat} {f : Nat → Nat} (hf : Bij n f) (hk : k < n) : Bij (n + 1) (ins n k f) := by
 constructor
 ·intro i hi
  unfold ins
  split
  ·have := hf.1 k hk; omega
  ·split
   ·omega
   ·have := hf.1 i (by omega); omega
 ·intro i j hi hj e
  unfold ins at e
  have bi : i ≠ n → f i < n := fun h => hf.1 i (by omega)
  have bj : j ≠ n → f j < n := fun h => hf.1 j (by omega)
  have bk := hf.1 k hk
  by_cases a1 : i = n <;> by_cases a2 : j = n
  ·omega
  ·rw [if_pos a1, if_neg a2] at e
   by_cases a3 : j = k
   ·rw [if_pos a3] at e; omega
   ·rw [if_neg a3] at e; exact absurd (hf.2 k j hk (by omega) e) (fun h => a3 h.symm)
  ·rw [if_neg a1, if_pos a2] at e
   by_cases a3 : i = k
   ·rw [if_pos a3] at e; omega
   ·rw [if_neg a3] at e; exact absurd (hf.2 i k (by omega) hk e) a3
  ·rw [if_neg a1, if_neg a2] at e
   by_cases a3 : i = k <;> by_cases a4 : j = k
   ·omega
   ·rw [if_pos a3, if_neg a4] at e; have := bj a2; omega
   ·rw [if_neg a3, if_pos a4] at e; have := bi a1; omega
   ·rw [if_neg a3, if_neg a4] at e; exact hf.2 i j (by omega) (by omega) e

theorem add_bij {n : Nat} {f : Nat → Nat} (hf : Bij n f) : Bij (n + 1) (fun x => if x = n then n else f x) := by
 constructor
 ·intro i hi
  show (if i = n then n else f i) < n + 1
  split
  ·omega
  ·have := hf.1 i (by omega); omega
 ·intro i j hi hj e
  have e' : (if i = n then n else f i) = (if j = n then n else f j) := e
  by_cases a1 : i = n <;> by_cases a2 : j = n
  ·omega
  ·rw [if_pos a1, if_neg a2] at e'; have := hf.1 j (by omega); omega
  ·rw [if_neg a1, if_pos a2] at e'; have := hf.1 i (by omega); omega
  ·rw [if_neg a1, if_neg a2] at e'; exact hf.2 i j (by omega) (by omega) e'

theorem perm_ev {s : List Int} (hs : Bytes s) {p : Int} (h0 : 0 ≤ p) (h1 : p ≤ 1000000) {n : Nat} (hn : n ≤ 1000) : ∃ f, Bij n f ∧ Ev (fun k => spec_l91Perm.f k s p (n : Int)) (pm n f, p + n) := by
 have loop : ∀ d i (f : Nat → Nat), i + d = n → Bij i f → ∃ g, Bij n g ∧ Ev (fun k => spec_l91Perm.l0 k (n : Int) (pm i f) (i : Int) s (p + i)) (pm n g, p + n) := by
  intro d
  induction d with
  | zero =>
   intro i f hi hf
   have e : i = n := by omega
   subst e
   exact ⟨f, hf, Ev.step (f := fun _ => some (pm i f, p + i)) (fun k => by rw [spec_l91Perm.l0, if_neg (by omega)]) (Ev.now _)⟩
  | succ d ih =>
   intro i f hi hf
   obtain ⟨v, ev, v0, _, v1⟩ := pick_ev hs (p := p + i) (n := (i : Int) + 1) (by omega) (by omega) (by omega)
   have v2 := v1 (by omega)
   obtain ⟨k, rfl⟩ : ∃ k : Nat, v = k := ⟨v.toNat, by omega⟩
   have ep : p + (i : Int) + 1 = p + ((i + 1 : Nat) : Int) := by omega
   by_cases c : k = i
   ·subst c
    obtain ⟨g, hg, eg⟩ := ih (k + 1) _ (by omega) (add_bij hf)
    refine ⟨g, hg, ?_⟩
    refine Ev.step (fun q => by rw [spec_l91Perm.l0]) (Ev.pos (by omega) ?_)
    rw [wrap_nat (by omega)]
    refine Ev.bind1 ev (Ev.pos rfl (Ev.pos (by rw [pm_length]; omega) ?_))
    have es : pm k f ++ [(k : Int)] = pm (k + 1) (fun x => if x = k then k else f x) := by
     unfold pm
     rw [List.range_succ, List.map_append]
     congr 1
     ·apply List.map_congr_left
      intro x hx
      have : x < k := by simpa using hx
      show (f x : Int) = ((if x = k then k else f x : Nat) : Int)
      rw [if_neg (by omega)]
     ·simp
    rw [es]
    show Ev (fun q => spec_l91Perm.l0 q _ _ _ s (p + (k : Int) + 1)) _
    rw [ep]
    exact eg
   ·have hk : k < i := by omega
    obtain ⟨g, hg, eg⟩ := ih (i + 1) _ (by omega) (ins_bij hf hk)
    refine ⟨g, hg, ?_⟩
    refine Ev.step (fun q => by rw [spec_l91Perm.l0]) (Ev.pos (by omega) ?_)
    rw [wrap_nat (by omega)]
    refine Ev.bind1 ev (Ev.neg (by show ¬ (k : Int) = i; omega) (Ev.pos (by show 0 ≤ (k : Int); omega) (Ev.pos (by rw [pm_length]; show (k : Int) < i; omega) (Ev.pos (by rw [pm_length]; omega) ?_))))
    refine Ev.some1 (Ev.pos (by simp [pm_length]; omega) ?_)
    have es : (pm i f ++ [rd (pm i f) (k : Int)]).set ((k : Int)).toNat (i : Int) = pm (i + 1) (ins i k f) := by
     refine eq_pm' (by simp [pm_length]) fun x hx => ?_
     rw [Int.toNat_natCast, rd_set (by simp [pm_length]; omega), rd_pm hk]
     unfold ins
     by_cases a1 : k = x
     ·rw [if_pos a1, if_neg (by omega), if_pos a1.symm]
     ·rw [if_neg a1]
      by_cases a2 : x = i
      ·rw [if_pos a2, a2]
       have : i < (pm i f ++ [(f k : Int)]).length := by simp [pm_length]
       rw [rd_get this]
       simp [pm_length]
      ·rw [if_neg a2, if_neg (fun e => a1 e.symm)]
       have hx' : x < i := by omega
       have : x < (pm i f ++ [(f k : Int)]).length := by simp [pm_length]; omega
       rw [rd_get this, List.getElem_append_left (by rw [pm_length]; exact hx'), ← rd_get (by rw [pm_length]; exact hx'), rd_pm hx']
    show Ev (fun q => spec_l91Perm.l0 q _ ((pm i f ++ [rd (pm i f) (k : Int)]).set ((k : Int)).toNat (i : Int)) _ s (p + (i : Int) + 1)) _
    rw [es, ep]
    exact eg
 obtain ⟨g, hg, eg⟩ := loop n 0 (fun x => x) (by omega) (id_bij 0)
 refine ⟨g, hg, ?_⟩
 unfold spec_l91Perm.f
 have : p + ((0 : Nat) : Int) = p := by omega
 rw [this] at eg
 exact eg

theorem specPermCycles_pm {n : Nat} {a : List Int} {f : Nat → Nat} (h : IsPerm n a f) : Ev (fun k => spec_PermCycles.f k a) (cycsL n f, true) := by
 have h12 := h.2.1
 have hl := isPerm_len h
 unfold spec_PermCycles.f
 refine Ev.bind1 (specValid_ev a (by omega)) (Ev.pos (isPerm_valid h) ?_)
 rw [h.2.2.2]
 exact Ev.bind1 (specCycles_ev (by omega) h.2.2.1) (Ev.now _)

theorem cycsL_mem {n : Nat} {f : Nat → Nat} {c : List Int} (h : c ∈ cycsL n f) : ∃ m, m < n ∧ isMin n f m = true ∧ c = ints (cyc n f m) := by
 unfold cycsL cycsTo at h
 obtain ⟨m, hm, e⟩ := List.mem_map.1 h
 have := mem_mins.1 hm
 exact ⟨m, this.1, this.2, e.symm⟩

theorem cycsL_len {n : Nat} {f : Nat → Nat} : (cycsL n f).length ≤ n := cycsTo_len n f n

theorem cyc_rd {n : Nat} {f : Nat → Nat} {m i : Nat} (h : i < per n f m) : rd (ints (cyc n f m)) (i : Int) = (it f i m : Int) := by
 rw [ints_rd (by rw [cyc_length]; exact h)]; simp [cyc]

theorem cyc_len {n : Nat} {f : Nat → Nat} {m : Nat} : (ints (cyc n f m)).length = per n f m := by rw [ints_len, cyc_length]

theorem cycsL_eq (n : Nat) (f : Nat → Nat) : cycsL n f = (mins n f).map fun m => ints (cyc n f m) := rfl

def bA (l : List UInt8) : ByteArray := ⟨l.toArray⟩

theorem bA_append (a b : List UInt8) : bA a ++ bA b = bA (a ++ b) := by
 apply ByteArray.ext
 simp [bA, ByteArray.data_append]

theorem bA_size (a : List UInt8) : (bA a).size = a.length := rfl

theorem bA_toList (a : List UInt8) : (bA a).toList = a := ByteArray.toList_mk a

theorem dec1 {n : Nat} (h : n < 10) : Lib.decDigits n = [UInt8.ofNat (48 + n)] := by
 rw [Lib.decDigits, dif_pos h]

theorem dec2 {n : Nat} (h : ¬ n < 10) : Lib.decDigits n = Lib.decDigits (n / 10) ++ [UInt8.ofNat (48 + n % 10)] := by
 rw [Lib.decDigits, dif_neg h]

theorem dec_len {n : Nat} (h : n < 100) : (Lib.decDigits n).length ≤ 2 := by
 by_cases c : n < 10
 ·rw [dec1 c]; simp
 ·rw [dec2 c, dec1 (by omega)]; simp

theorem digit_str {m : Nat} (h : m < 10) : strOfNums [(wrap64 (48 + (m : Int))) % 256] = bA [UInt8.ofNat (48 + m)] := by
 have w : wrap64 (48 + (m : Int)) % 256 = ((48 + m : Nat) : Int) := by unfold wrap64; omega
 rw [w]
 unfold strOfNums bA
 simp only [List.map_cons, List.map_nil, Int.toNat_natCast]

theorem l6Dec_ev : ∀ {n : Nat}, n < 100 → Ev (fun k => spec_l6Dec.f k (n : Int)) (bA (Lib.decDigits n)) := by
 have small : ∀ {n : Nat}, n < 10 → Ev (fun k => spec_l6Dec.f k (n : Int)) (bA (Lib.decDigits n)) := by
  intro n h
  refine Ev.step (fun k => by rw [spec_l6Dec.f]) ?_
  refine Ev.neg (by omega) (Ev.neg (by omega) (Ev.pos (by omega) ?_))
  rw [digit_str h, dec1 h]
  exact Ev.now _
 intro n h
 by_cases c : n < 10
 ·exact small c
 refine Ev.step (fun k => by rw [spec_l6Dec.f]) ?_
 have e1 : wrap64 (Int.tdiv (n : Int) 10) = ((n / 10 : Nat) : Int) := by
  rw [Int.tdiv_eq_ediv_of_nonneg (Int.natCast_nonneg n)]
  unfold wrap64; omega
 have e2 : Int.tmod (n : Int) 10 = ((n % 10 : Nat) : Int) := by
  rw [Int.tmod_eq_emod_of_nonneg (Int.natCast_nonneg n)]; omega
 rw [e1, e2]
 have l := dec_len h
 rw [dec2 c] at l ⊢
 refine Ev.neg (by omega) (Ev.neg (by omega) (Ev.neg (by omega) (Ev.bind1 (small (n := n / 10) (by omega)) (Ev.some1 ?_))))
 rw [digit_str (m := n % 10) (by omega), bA_append, bA_size, bA_size]
 rw [List.length_append] at l
 exact Ev.pos (by omega) (Ev.now _)

/-- a row of numbers below a hundred -/
def Low (c : List Int) : Prop := c.length ≤ 12 ∧ ∀ j, j < c.length → ∃ m : Nat, m < 100 ∧ rd c (j : Int) = m

theorem items_len {c : List Int} (h : ∀ x, x ∈ c → ∃ m : Nat, m < 100 ∧ x = m) : ∀ b, (impl_PermText.items b c).length ≤ 3 * c.length := by
 induction c with
 | nil => intro b; simp [impl_PermText.items]
 | cons x t ih =>
  intro b
  obtain ⟨m, hm, rfl⟩ := h x List.mem_cons_self
  have := ih (fun y hy => h y (List.mem_cons_of_mem _ hy)) false
  have := dec_len hm
  simp only [impl_PermText.items, List.length_cons, List.length_append, Int.toNat_natCast]
  omega

theorem Low.mem {c : List Int} (h : Low c) : ∀ x, x ∈ c → ∃ m : Nat, m < 100 ∧ x = m := by
 intro x hx
 obtain ⟨j, hj, e⟩ := List.mem_iff_getElem.1 hx
 obtain ⟨m, hm, e2⟩ := h.2 j hj
 rw [rd_get hj] at e2
 exact ⟨m, hm, by rw [← e, e2]⟩

theorem row_len {c : List Int} (h : Low c) : (impl_PermText.row c).length ≤ 37 := by
 unfold impl_PermText.row
 split
 ·simp
 ·have := items_len h.mem true
  have := h.1
  rw [List.length_append]; simp; omega

theorem txt_len {cs : List (List Int)} (h : ∀ c, c ∈ cs → Low c) : (impl_PermText.txt cs).length ≤ 37 * cs.length := by
 induction cs with
 | nil => simp [impl_PermText.txt]
 | cons c t ih =>
  have := ih fun x hx => h x (List.mem_cons_of_mem _ hx)
  have := row_len (h c List.mem_cons_self)
  simp only [impl_PermText.txt, List.length_append, List.length_cons]
  omega

theorem txt_small {cs : List (List Int)} (h : ∀ c, c ∈ cs → Low c) (hl : cs.length ≤ 12) : impl_PermText.small cs = true := by
 have := txt_len h
 unfold impl_PermText.small
 simp only [Bool.and_eq_true, List.all_eq_true, decide_eq_true_eq]
 refine ⟨fun c hc => ⟨by have := (h c hc).1; omega, fun x hx => ?_⟩, by omega, by omega⟩
 obtain ⟨m, hm, rfl⟩ := (h c hc).mem x hx
 omega

theorem items_one {c : List Int} {j m : Nat} (hj : j < c.length) (hm : rd c (j : Int) = m) (b : Bool) : impl_PermText.items b (c.drop j) = (if b then 40 else 44) :: (Lib.decDigits m ++ impl_PermText.items false (c.drop (j + 1))) := by
 rw [impl_PermText.items_drop hj, hm, Int.toNat_natCast]

theorem rowTail_ev {cs : List (List Int)} {ok : Bool} {i : Nat} (hi : i < cs.length) (hl : cs.length ≤ 12) (hc : Low (rd_L1 cs (i : Int))) {R : ByteArray} :
 ∀ d j (a : List UInt8), 1 ≤ j → j + d = (rd_L1 cs (i : Int)).length → a.length ≤ 5000 + 3 * j → Ev (fun k => spec_PermText.l0 k (bA (a ++ impl_PermText.items false ((rd_L1 cs (i : Int)).drop j) ++ [41])) cs ok ((i + 1 : Nat) : Int)) R → Ev (fun k => spec_PermText.l1 k (bA a) cs ok (i : Int) (j : Int)) R := by
 intro d
 induction d with
 | zero =>
  intro j a h1 hj ha k
  have := hc.1
  refine Ev.step (fun k => by rw [spec_PermText.l1]) ?_
  rw [List.drop_of_length_le (by omega)] at k
  refine Ev.pos (by omega) (Ev.pos (by omega) (Ev.neg (by omega) (Ev.pos (by rw [bA_size]; omega) ?_)))
  rw [wrap_nat (by omega), show (⟨#[41]⟩ : ByteArray) = bA [41] from rfl, bA_append]
  simpa [impl_PermText.items] using k
 | succ d ih =>
  intro j a h1 hj ha k
  have := hc.1
  have hj' : j < (rd_L1 cs (i : Int)).length := by omega
  obtain ⟨m, hm, e⟩ := hc.2 j hj'
  have dl := dec_len hm
  rw [items_one hj' e false] at k
  refine Ev.step (fun k => by rw [spec_PermText.l1]) ?_
  rw [e, show (⟨#[44]⟩ : ByteArray) = bA [44] from rfl, bA_append]
  refine Ev.pos (by omega) (Ev.pos (by omega) (Ev.pos (by omega) (Ev.pos (by omega) (Ev.pos (by rw [bA_size]; omega) (Ev.pos (by omega) (Ev.bind1 (l6Dec_ev hm) ?_))))))
  rw [bA_append, bA_size, bA_size, wrap_nat (by omega)]
  refine Ev.pos (by simp only [List.length_append, List.length_cons, List.length_nil]; omega) (ih (j + 1) _ (by omega) (by omega) (by simp only [List.length_append, List.length_cons, List.length_nil]; omega) ?_)
  simpa using k

theorem permText_ev {cs : List (List Int)} (ok : Bool) (hl : cs.length ≤ 12) (h : ∀ c, c ∈ cs → Low c) : Ev (fun k => spec_PermText.l0 k (bA []) cs ok ((0 : Nat) : Int)) (if ok = true then (if impl_PermText.txt cs = [] then (⟨#[40, 41]⟩ : ByteArray) else bA (impl_PermText.txt cs)) else bA (impl_PermText.txt cs)) := by
 have loop : ∀ d i (a : List UInt8), i + d = cs.length → a.length ≤ 37 * i → a ++ impl_PermText.txt (cs.drop i) = impl_PermText.txt cs → Ev (fun k => spec_PermText.l0 k (bA a) cs ok (i : Int)) (if ok = true then (if impl_PermText.txt cs = [] then (⟨#[40, 41]⟩ : ByteArray) else bA (impl_PermText.txt cs)) else bA (impl_PermText.txt cs)) := by
  intro d
  induction d with
  | zero =>
   intro i a hi ha e
   rw [List.drop_of_length_le (by omega)] at e
   have e : a = impl_PermText.txt cs := by simpa [impl_PermText.txt] using e
   subst e
   refine Ev.step (f := fun _ => some (if ok = true then (if impl_PermText.txt cs = [] then (⟨#[40, 41]⟩ : ByteArray) else bA (impl_PermText.txt cs)) else bA (impl_PermText.txt cs))) (fun k => ?_) (Ev.now _)
   rw [spec_PermText.l0, if_neg (by omega), bA_toList]
   cases ok with
   | true =>
    rw [if_pos rfl, if_pos rfl]
    by_cases c : impl_PermText.txt cs = []
    ·rw [if_pos c, if_pos c]
    ·rw [if_neg c, if_neg c]
   | false => rw [if_neg (by simp), if_neg (by simp)]
  | succ d ih =>
   intro i a hi ha e
   have hi' : i < cs.length := by omega
   have er : rd_L1 cs (i : Int) = cs[i] := by unfold rd_L1; simp [List.getD_eq_getElem?_getD, hi']
   have hc : Low (rd_L1 cs (i : Int)) := by rw [er]; exact h _ (List.getElem_mem hi')
   have rl := row_len hc
   rw [impl_PermText.txt_drop hi', ← List.append_assoc] at e
   refine Ev.step (fun k => by rw [spec_PermText.l0]) ?_
   refine Ev.pos (by omega) (Ev.pos (by omega) ?_)
   by_cases c : ((rd_L1 cs (i : Int)).length : Int) < 2
   ·have r0 : impl_PermText.row (rd_L1 cs (i : Int)) = [] := by unfold impl_PermText.row; rw [if_pos (by omega)]
    rw [r0, List.append_nil] at e
    refine Ev.pos c ?_
    rw [wrap_nat (by omega)]
    exact ih (i + 1) a (by omega) (by omega) e
   ·have next := ih (i + 1) _ (by omega) (by rw [List.length_append]; omega) e
    refine Ev.neg c (Ev.pos (by rw [bA_size]; omega) ?_)
    have h0 : 0 < (rd_L1 cs (i : Int)).length := by omega
    obtain ⟨m, hm, em⟩ := hc.2 0 h0
    have dl := dec_len hm
    have hx := hc.1
    have rr : impl_PermText.row (rd_L1 cs (i : Int)) = 40 :: (Lib.decDigits m ++ impl_PermText.items false ((rd_L1 cs (i : Int)).drop 1)) ++ [41] := by
     unfold impl_PermText.row
     rw [if_neg (by omega)]
     have := items_one h0 em true
     rw [List.drop_zero] at this
     rw [this]; rfl
    rw [rr] at next
    rw [show (⟨#[40]⟩ : ByteArray) = bA [40] from rfl, bA_append]
    refine Ev.step (fun k => by rw [spec_PermText.l1]) ?_
    rw [show (0 : Int) = ((0 : Nat) : Int) from rfl, em]
    refine Ev.pos (by omega) (Ev.pos (by omega) (Ev.pos (by omega) (Ev.neg (by omega) (Ev.pos (by omega) (Ev.bind1 (l6Dec_ev hm) ?_)))))
    rw [bA_append, bA_size, bA_size, wrap_nat (by omega)]
    refine Ev.pos (by simp only [List.length_append, List.length_cons, List.length_nil]; omega) (rowTail_ev hi' hl hc ((rd_L1 cs (i : Int)).length - 1) 1 _ (by omega) (by omega) (by simp only [List.length_append, List.length_cons, List.length_nil]; omega) ?_)
    simpa using next
 exact loop cs.length 0 [] (by omega) (by simp) (by simp)

theorem cycsL_low {n : Nat} {f : Nat → Nat} (hn : n ≤ 12) (hb : Bij n f) : ∀ c, c ∈ cycsL n f → Low c := by
 intro c hc
 obtain ⟨m, hm, _, rfl⟩ := cycsL_mem hc
 have p := (per_spec hb hm).2.1
 refine ⟨by rw [cyc_len]; omega, fun j hj => ?_⟩
 rw [cyc_len] at hj
 exact ⟨it f j m, by have := it_lt hb j hm; omega, cyc_rd hj⟩

theorem index_hit1 {c : UInt8} : ∀ {a b : List UInt8}, c ∉ a → Lib.index (a ++ c :: b) [c] = a.length
 | [], b, _ => by unfold Lib.index; simp
 | x :: a, b, h => by
  have hx : ¬ c = x := fun e => h (by simp [e])
  have ih := index_hit1 (a := a) (b := b) (fun m => h (List.mem_cons_of_mem _ m))
  rw [List.cons_append]; unfold Lib.index
  rw [if_neg (by simp [List.isPrefixOf]; exact hx), ih, if_neg (by simp)]
  simp

theorem index_miss1 {c : UInt8} : ∀ {a : List UInt8}, c ∉ a → Lib.index a [c] = -1
 | [], _ => by unfold Lib.index; simp
 | x :: a, h => by
  have hx : ¬ c = x := fun e => h (by simp [e])
  have ih := index_miss1 (a := a) (fun m => h (List.mem_cons_of_mem _ m))
  unfold Lib.index
  rw [if_neg (by simp [List.isPrefixOf]; exact hx), ih]
  simp

theorem cut_hit1 {c : UInt8} {a b : List UInt8} (h : c ∉ a) : Lib.cut (a ++ c :: b) [c] = (a, b, true) := by
 unfold Lib.cut
 rw [index_hit1 h, if_pos (by omega)]
 simp

/-- parts with a comma between each two -/
def joinC : List (List UInt8) → List UInt8
 | [] => []
 | [d] => d
 | d :: e :: t => d ++ 44 :: joinC (e :: t)

theorem splitK_join : ∀ ds : List (List UInt8), ds ≠ [] → (∀ d, d ∈ ds → (44 : UInt8) ∉ d) → Lib.splitK [44] 0 (Lib.count (joinC ds) [44]) (joinC ds) = ds
 | [], h, _ => absurd rfl h
 | [d], _, h => by
  have := index_miss1 (h d (by simp))
  rw [joinC, Lib.count_miss this]; rfl
 | d :: e :: t, _, h => by
  have hd := h d (by simp)
  have hi := index_hit1 (b := joinC (e :: t)) hd
  have ih := splitK_join (e :: t) (by simp) (fun x hx => h x (List.mem_cons_of_mem _ hx))
  rw [joinC, Lib.count_hit (by simp) hi]
  have e1 : (d ++ 44 :: joinC (e :: t)).drop (d.length + [(44 : UInt8)].length) = joinC (e :: t) := by
   rw [show d.length + [(44 : UInt8)].length = d.length + 1 from rfl, ← List.drop_drop]
   simp
  rw [e1, Nat.add_comm 1]
  unfold Lib.splitK
  rw [hi, if_neg (by simp), Int.toNat_natCast, e1, ih]
  simp

/-- the numbers of some words -/
def ptsL (n : Int) : List (List UInt8) → List Int → Option (List Int)
 | [], acc => some acc
 | u :: t, acc => match Lib.atoiAll u with
  | .ok v => if v < 0 then none else if v ≥ n then none else ptsL n t (acc ++ [v])
  | _ => none

theorem pts_eq (n : Int) : ∀ (ws : List ByteArray) (acc : List Int), impl_PermFrom.pts n ws acc = ptsL n (ws.map (·.data.toList)) acc
 | [], acc => rfl
 | u :: t, acc => by
  rw [List.map_cons]
  unfold impl_PermFrom.pts ptsL
  cases Lib.atoiAll u.data.toList with
  | ok v =>
   simp only []
   rw [pts_eq n t]
  | _ => rfl

theorem words_eq (l : List UInt8) : (impl_PermFrom.words l).map (·.data.toList) = Lib.splitK [44] 0 (Lib.count l [44]) l := by
 unfold impl_PermFrom.words
 rw [Lib.splitB_data]

/-- the digits of a number -/
def dg (x : Int) : List UInt8 := Lib.decDigits x.toNat

theorem dg_range {m : Nat} (h : m < 100) : ∀ c, c ∈ dg (m : Int) → 48 ≤ c.toNat ∧ c.toNat ≤ 57 := by
 unfold dg
 rw [Int.toNat_natCast]
 have one : ∀ q : Nat, q < 10 → 48 ≤ (UInt8.ofNat (48 + q)).toNat ∧ (UInt8.ofNat (48 + q)).toNat ≤ 57 := by
  intro q hq
  have : ∀ p : Fin 10, 48 ≤ (UInt8.ofNat (48 + p.val)).toNat ∧ (UInt8.ofNat (48 + p.val)).toNat ≤ 57 := by decide +kernel
  exact this ⟨q, hq⟩
 intro c hc
 by_cases k : m < 10
 ·rw [dec1 k] at hc
  simp only [List.mem_singleton] at hc
  subst hc
  exact one m k
 ·rw [dec2 k, dec1 (n := m / 10) (by omega)] at hc
  simp only [List.mem_append, List.mem_singleton] at hc
  rcases hc with rfl | rfl
  ·exact one _ (by omega)
  ·exact one _ (by omega)

theorem atoi_dg {m : Nat} (h : m < 100) : Lib.atoiAll (dg (m : Int)) = .ok (m : Int) := by
 unfold dg
 rw [Int.toNat_natCast]
 by_cases k : m < 10
 ·rw [dec1 k]
  have : ∀ p : Fin 10, Lib.atoiAll [UInt8.ofNat (48 + p.val)] = .ok (p.val : Int) := by decide +kernel
  exact this ⟨m, k⟩
 ·rw [dec2 k, dec1 (n := m / 10) (by omega)]
  have : ∀ p : Fin 100, Lib.atoiAll ([UInt8.ofNat (48 + p.val / 10)] ++ [UInt8.ofNat (48 + p.val % 10)]) = .ok (p.val : Int) := by decide +kernel
  exact this ⟨m, h⟩

/-- rows of numbers below n -/
def Under (n : Nat) (c : List Int) : Prop := ∀ x, x ∈ c → ∃ m : Nat, m < n ∧ x = m

theorem ptsL_dg {n : Nat} (hn : n ≤ 12) : ∀ (c acc : List Int), Under n c → ptsL n (c.map dg) acc = some (acc ++ c)
 | [], acc, _ => by simp [ptsL]
 | x :: c, acc, h => by
  obtain ⟨m, hm, rfl⟩ := h x (by simp)
  rw [List.map_cons]
  unfold ptsL
  rw [atoi_dg (by omega)]
  simp only []
  rw [if_neg (by omega), if_neg (by omega), ptsL_dg hn c _ (fun y hy => h y (List.mem_cons_of_mem _ hy))]
  simp

theorem items_join : ∀ (c : List Int) (b : Bool), c ≠ [] → impl_PermText.items b c = (if b then 40 else 44) :: joinC (c.map dg)
 | [], _, h => absurd rfl h
 | [x], b, _ => by simp [impl_PermText.items, joinC, dg]
 | x :: y :: t, b, _ => by
  have ih := items_join (y :: t) false (by simp)
  unfold impl_PermText.items
  rw [ih]
  simp [joinC, dg]

theorem joinC_mem {c : UInt8} : ∀ (ds : List (List UInt8)), c ∈ joinC ds → c = 44 ∨ ∃ d, d ∈ ds ∧ c ∈ d
 | [], h => by cases h
 | [d], h => .inr ⟨d, by simp, h⟩
 | d :: e :: t, h => by
  rw [joinC, List.mem_append, List.mem_cons] at h
  rcases h with h | h | h
  ·exact .inr ⟨d, by simp, h⟩
  ·exact .inl h
  ·rcases joinC_mem (e :: t) h with k | ⟨x, hx, k⟩
   ·exact .inl k
   ·exact .inr ⟨x, List.mem_cons_of_mem _ hx, k⟩

theorem under_dg {n : Nat} (hn : n ≤ 12) {c : List Int} (h : Under n c) : ∀ d, d ∈ c.map dg → ∀ b, b ∈ d → 48 ≤ b.toNat ∧ b.toNat ≤ 57 := by
 intro d hd b hb
 obtain ⟨x, hx, rfl⟩ := List.mem_map.1 hd
 obtain ⟨m, hm, rfl⟩ := h x hx
 exact dg_range (by omega) b hb

theorem no41 {n : Nat} (hn : n ≤ 12) {c : List Int} (h : Under n c) : (41 : UInt8) ∉ joinC (c.map dg) := by
 intro k
 rcases joinC_mem _ k with k | ⟨d, hd, k⟩
 ·exact absurd k (by decide)
 ·have := (under_dg hn h d hd _ k).1
  exact absurd this (by decide)

theorem row_join {c : List Int} (hc : 2 ≤ c.length) : impl_PermText.row c = 40 :: joinC (c.map dg) ++ [41] := by
 unfold impl_PermText.row
 rw [if_neg (by omega), items_join c true (by intro e; subst e; simp at hc)]
 rfl

theorem inner_row {n : Nat} (hn : n ≤ 12) {c : List Int} (h : Under n c) (hc : 2 ≤ c.length) (r : List UInt8) : impl_PermFrom.inner (impl_PermText.row c ++ r) = (joinC (c.map dg), r, true) := by
 have e : impl_PermText.row c ++ r = 40 :: (joinC (c.map dg) ++ 41 :: r) := by rw [row_join hc]; simp
 rw [e]
 unfold impl_PermFrom.inner
 have : Lib.trimPrefix (40 :: (joinC (c.map dg) ++ 41 :: r)) [40] = joinC (c.map dg) ++ 41 :: r := by
  simp [Lib.trimPrefix, Lib.hasPrefix]
 rw [this, cut_hit1 (no41 hn h)]

theorem words_row {n : Nat} (hn : n ≤ 12) {c : List Int} (h : Under n c) (hc : 2 ≤ c.length) : (impl_PermFrom.words (joinC (c.map dg))).map (·.data.toList) = c.map dg := by
 rw [words_eq, splitK_join _ (by intro e; have := congrArg List.length e; simp at this; subst this; simp at hc)]
 intro d hd k
 have := (under_dg hn h d hd _ k).1
 exact absurd this (by decide)

theorem splitB_small (sep : ByteArray) : ∀ (k : Nat) (s u : ByteArray), u ∈ Lib.splitB sep 0 k s → u.size ≤ s.size
 | 0, s, u, h => by
  rw [Lib.splitB_zero, List.mem_singleton] at h
  rw [h]; exact Nat.le_refl _
 | k + 1, s, u, h => by
  unfold Lib.splitB at h
  split at h
  ·rw [List.mem_singleton] at h; rw [h]; exact Nat.le_refl _
  ·rcases List.mem_cons.1 h with rfl | h
   ·rw [ByteArray.size_extract]; omega
   ·have := splitB_small sep k _ u h
    rw [ByteArray.size_extract] at this; omega

theorem fine_small {l : List UInt8} (h : l.length ≤ 5000000) : impl_PermFrom.fine (impl_PermFrom.words l) = true := by
 have hs : (⟨l.toArray⟩ : ByteArray).size = l.length := rfl
 unfold impl_PermFrom.fine
 simp only [Bool.and_eq_true, List.all_eq_true, decide_eq_true_eq]
 refine ⟨?_, fun u hu => ?_⟩
 ·have a := Lib.splitB_length_le ⟨#[44]⟩ 0 (Lib.countB ⟨l.toArray⟩ ⟨#[44]⟩) ⟨l.toArray⟩
  have b := Lib.countB_le ⟨#[44]⟩ (by decide) _ (⟨l.toArray⟩ : ByteArray) (Nat.le_refl _)
  unfold impl_PermFrom.words
  omega
 ·have := splitB_small _ _ _ u hu
  omega

theorem row_head {c : List Int} (hc : 2 ≤ c.length) (r : List UInt8) : impl_PermText.row c ++ r ≠ [] ∧ Lib.hasPrefix (impl_PermText.row c ++ r) [40] = true := by
 rw [row_join hc]
 exact ⟨by simp, by simp [Lib.hasPrefix]⟩

/-- the program reads one row -/
theorem fromI_row {n : Nat} (hn : n ≤ 12) {s : List UInt8} (hs : s ≠ [40, 41]) {c : List Int} (h : Under n c) (hc : 2 ≤ c.length) (hl : c.length ≤ 12) {p : List Int} {r : List UInt8} {R : Option (List Int)}
 (k : Ev (fun k => impl_PermFrom.l0 n s k (impl_PermFrom.put c c.length 0 p) r) R) : Ev (fun k => impl_PermFrom.l0 n s k p (impl_PermText.row c ++ r)) R := by
 obtain ⟨h1, h2⟩ := row_head hc r
 have hi := inner_row hn h hc r
 have hp : impl_PermFrom.pts n (impl_PermFrom.words (joinC (c.map dg))) [] = some c := by
  rw [pts_eq, words_row hn h hc, ptsL_dg hn c [] h]; rfl
 have hf : impl_PermFrom.fine (impl_PermFrom.words (joinC (c.map dg))) = true := by
  refine fine_small ?_
  have a := items_len (c := c) (fun x hx => by obtain ⟨m, hm, e⟩ := h x hx; exact ⟨m, by omega, e⟩) true
  rw [items_join c true (by intro e; subst e; simp at hc)] at a
  simp only [List.length_cons] at a
  omega
 refine Ev.step (fun q => ?_) k
 rw [impl_PermFrom.l0, if_neg h1, if_neg hs, if_pos h2, hi, if_pos rfl, if_pos hf]
 simp only [hp]

/-- all rows are put over a row of points -/
def putAll : List (List Int) → List Int → List Int
 | [], p => p
 | c :: t, p => putAll t (if c.length < 2 then p else impl_PermFrom.put c c.length 0 p)

theorem fromI_txt {n : Nat} (hn : n ≤ 12) {s : List UInt8} (hs : s ≠ [40, 41]) : ∀ (cs : List (List Int)), (∀ c, c ∈ cs → Under n c ∧ c.length ≤ 12) → ∀ p, Ev (fun k => impl_PermFrom.l0 n s k p (impl_PermText.txt cs)) (some (putAll cs p))
 | [], _, p => by
  refine Ev.step (f := fun _ => some (some p)) (fun k => ?_) (Ev.now _)
  rw [impl_PermText.txt, impl_PermFrom.l0, if_pos rfl]
 | c :: t, h, p => by
  have ih := fromI_txt hn hs t (fun x hx => h x (List.mem_cons_of_mem _ hx))
  obtain ⟨a, b⟩ := h c (by simp)
  rw [putAll]
  by_cases k : c.length < 2
  ·have e : impl_PermText.txt (c :: t) = impl_PermText.txt t := by
    rw [impl_PermText.txt]; unfold impl_PermText.row; rw [if_pos k]; rfl
   rw [e, if_pos k]
   exact ih p
  ·rw [impl_PermText.txt, if_neg k]
   exact fromI_row hn hs a (by omega) b (ih _)

/-- a row's points lead on as the permutation says -/
theorem pm_set1 {n : Nat} (E : Nat → Nat) {i : Nat} (hi : i < n) (v : Nat) : (pm n E).set i (v : Int) = pm n (fun y => if y = i then v else E y) := by
 apply List.ext_getElem
 ·simp [pm_length]
 ·intro j h1 h2
  have hj : j < n := by rw [pm_length] at h2; exact h2
  simp only [pm, List.getElem_set, List.getElem_map, List.getElem_range]
  by_cases e : i = j
  ·subst e; simp
  ·rw [if_neg e, if_neg (fun k => e k.symm)]

theorem put_cyc {n : Nat} {f : Nat → Nat} (hb : Bij n f) {m : Nat} (hm : m < n) : ∀ d i, i + d = per n f m → ∀ g : Nat → Nat, ∃ g' : Nat → Nat, impl_PermFrom.put (ints (cyc n f m)) d i (pm n g) = pm n g' ∧
 ∀ x, x < n → (g' x = f x ∨ g' x = g x) ∧ ((g x = f x ∨ ∃ j, i ≤ j ∧ j < per n f m ∧ it f j m = x) → g' x = f x)
 | 0, i, hi, g => ⟨g, rfl, fun x hx => ⟨.inr rfl, fun h => h.elim id fun ⟨j, h1, h2, _⟩ => by omega⟩⟩
 | d + 1, i, hi, g => by
  have hip : i < per n f m := by omega
  have ps := per_spec hb hm
  have e1 : rd (ints (cyc n f m)) (i : Int) = (it f i m : Int) := cyc_rd hip
  have e2 : rd (ints (cyc n f m)) (((i + 1) % (ints (cyc n f m)).length : Nat) : Int) = (f (it f i m) : Int) := by
   rw [cyc_len]
   by_cases k : i + 1 < per n f m
   ·rw [Nat.mod_eq_of_lt k, cyc_rd k]; rfl
   ·have : i + 1 = per n f m := by omega
    rw [this, Nat.mod_self, cyc_rd (by omega)]
    have w := ps.2.2.1
    rw [← this] at w
    have w2 : f (it f i m) = m := w
    rw [w2]; rfl
  have lt := it_lt hb i hm
  obtain ⟨g', h1, h2⟩ := put_cyc hb hm d (i + 1) (by omega) (fun y => if y = it f i m then f (it f i m) else g y)
  refine ⟨g', ?_, fun x hx => ?_⟩
  ·rw [impl_PermFrom.put, e1, e2, Int.toNat_natCast, pm_set1 g lt, h1]
  ·obtain ⟨a, b⟩ := h2 x hx
   by_cases k : x = it f i m
   ·subst k
    rw [if_pos rfl] at a b
    have := b (.inl rfl)
    exact ⟨.inl this, fun _ => this⟩
   ·rw [if_neg k] at a b
    refine ⟨a, fun h => b ?_⟩
    rcases h with h | ⟨j, h3, h4, h5⟩
    ·exact .inl h
    ·by_cases e : j = i
     ·subst e; exact absurd h5.symm k
     ·exact .inr ⟨j, by omega, h4, h5⟩

theorem putAll_cyc {n : Nat} {f : Nat → Nat} (hb : Bij n f) : ∀ (ms : List Nat), (∀ m, m ∈ ms → m < n) → ∀ g : Nat → Nat, ∃ g' : Nat → Nat, putAll (ms.map fun m => ints (cyc n f m)) (pm n g) = pm n g' ∧
 ∀ x, x < n → (g' x = f x ∨ g' x = g x) ∧ ((g x = f x ∨ ∃ m, m ∈ ms ∧ 2 ≤ per n f m ∧ orb f m x) → g' x = f x)
 | [], _, g => ⟨g, rfl, fun x hx => ⟨.inr rfl, fun h => h.elim id fun ⟨m, h1, _⟩ => by cases h1⟩⟩
 | m :: ms, h, g => by
  have hm := h m (by simp)
  have hms : ∀ a, a ∈ ms → a < n := fun a ha => h a (List.mem_cons_of_mem _ ha)
  rw [List.map_cons, putAll, cyc_len]
  by_cases k : per n f m < 2
  ·rw [if_pos k]
   obtain ⟨g', h1, h2⟩ := putAll_cyc hb ms hms g
   refine ⟨g', h1, fun x hx => ⟨(h2 x hx).1, fun w => (h2 x hx).2 ?_⟩⟩
   rcases w with w | ⟨a, w1, w2, w3⟩
   ·exact .inl w
   ·rcases List.mem_cons.1 w1 with rfl | w1
    ·omega
    ·exact .inr ⟨a, w1, w2, w3⟩
  ·rw [if_neg k]
   obtain ⟨g1, a1, a2⟩ := put_cyc hb hm (per n f m) 0 (by omega) g
   obtain ⟨g', h1, h2⟩ := putAll_cyc hb ms hms g1
   refine ⟨g', by rw [a1, h1], fun x hx => ?_⟩
   obtain ⟨b1, b2⟩ := a2 x hx
   obtain ⟨c1, c2⟩ := h2 x hx
   refine ⟨?_, fun w => ?_⟩
   ·rcases c1 with c1 | c1
    ·exact .inl c1
    ·rcases b1 with b1 | b1
     ·exact .inl (c1.trans b1)
     ·exact .inr (c1.trans b1)
   ·rcases w with w | ⟨a, w1, w2, w3⟩
    ·exact c2 (.inl (b2 (.inl w)))
    ·rcases List.mem_cons.1 w1 with rfl | w1
     ·obtain ⟨j, hj, e⟩ : ∃ j, j < per n f a ∧ it f j a = x := by
       have := (mem_cyc hb hm).2 w3
       simp only [cyc, List.mem_map, List.mem_range] at this
       exact this
      exact c2 (.inl (b2 (.inr ⟨j, by omega, hj, e⟩)))
     ·exact c2 (.inr ⟨a, w1, w2, w3⟩)

theorem putAll_pm {n : Nat} {f : Nat → Nat} (hb : Bij n f) : putAll (cycsL n f) (pm n fun i => i) = pm n f := by
 rw [cycsL_eq]
 obtain ⟨g', h1, h2⟩ := putAll_cyc hb (mins n f) (fun m hm => (mem_mins.1 hm).1) (fun i => i)
 rw [h1]
 refine pm_ext.2 fun x hx => ?_
 obtain ⟨m, hm, im, o, _⟩ := min_of hb hx
 refine (h2 x hx).2 ?_
 by_cases k : 2 ≤ per n f m
 ·exact .inr ⟨m, mem_mins.2 ⟨hm, im⟩, k, o⟩
 ·have p1 := per_orb hb hm o
  have p := per_spec hb hx
  have : per n f x = 1 := by have := p.1; omega
  have w := p.2.2.1
  rw [this] at w
  exact .inl (show x = f x from w.symm)

/-- the text of a permutation -/
def TT (n : Nat) (f : Nat → Nat) : List UInt8 := if impl_PermText.txt (cycsL n f) = [] then [40, 41] else impl_PermText.txt (cycsL n f)

theorem TT_bA (n : Nat) (f : Nat → Nat) : (if impl_PermText.txt (cycsL n f) = [] then (⟨#[40, 41]⟩ : ByteArray) else bA (impl_PermText.txt (cycsL n f))) = bA (TT n f) := by
 unfold TT; split <;> rfl

theorem TT_ne (n : Nat) (f : Nat → Nat) : TT n f ≠ [] := by
 unfold TT; split
 ·simp
 ·assumption

theorem TT_len {n : Nat} {f : Nat → Nat} (hn : n ≤ 12) (hb : Bij n f) : (TT n f).length ≤ 500 := by
 have low := cycsL_low hn hb
 have lc : (cycsL n f).length ≤ n := cycsL_len
 have := txt_len low
 unfold TT
 split
 ·simp
 ·omega

theorem specText_pm {n : Nat} {a : List Int} {f : Nat → Nat} (hf : IsPerm n a f) : Ev (fun k => spec_PermText.f k a) (bA (TT n f)) := by
 have low := cycsL_low hf.2.1 hf.2.2.1
 have lc : (cycsL n f).length ≤ n := cycsL_len
 have h12 := hf.2.1
 rw [← TT_bA]
 unfold spec_PermText.f
 exact Ev.bind1 (specPermCycles_pm hf) (permText_ev true (by show (cycsL n f).length ≤ 12; omega) low)

theorem implText_pm {n : Nat} {a : List Int} {f : Nat → Nat} (hf : IsPerm n a f) : Ev (fun k => impl_PermText.f k a) (bA (TT n f)) := by
 have low := cycsL_low hf.2.1 hf.2.2.1
 have lc : (cycsL n f).length ≤ n := cycsL_len
 have h12 := hf.2.1
 rw [← TT_bA]
 unfold impl_PermText.f
 refine Ev.bind1 (implValid_ev a) (Ev.pos (isPerm_valid hf) (Ev.bind1 (a := cycsL n f) ?_ (Ev.pos (txt_small low (by omega)) ?_)))
 ·have := implCycles_ev (n := n) (f := f) (by omega) hf.2.2.1
  rw [← hf.2.2.2] at this
  exact this
 ·by_cases c : impl_PermText.txt (cycsL n f) = []
  ·rw [show (if impl_PermText.txt (cycsL n f) = [] then (⟨#[40, 41]⟩ : ByteArray) else bA (impl_PermText.txt (cycsL n f))) = ⟨#[40, 41]⟩ from if_pos c]; exact Ev.pos c (Ev.now _)
  ·rw [show (if impl_PermText.txt (cycsL n f) = [] then (⟨#[40, 41]⟩ : ByteArray) else bA (impl_PermText.txt (cycsL n f))) = bA (impl_PermText.txt (cycsL n f)) from if_neg c]; exact Ev.neg c (Ev.now _)

theorem specText_no {a : List Int} (ha : a.length ≤ 1048576) (v : ¬ impl_PermValid.validB a = true) : Ev (fun k => spec_PermText.f k a) (bA []) := by
 unfold spec_PermText.f
 have e2 : Ev (fun k => spec_PermCycles.f k a) ([], false) := by
  unfold spec_PermCycles.f
  exact Ev.bind1 (specValid_ev a (by omega)) (Ev.neg v (Ev.now _))
 have := permText_ev (cs := []) false (by simp) (by simp)
 exact Ev.bind1 e2 this

theorem implText_no {a : List Int} (v : ¬ impl_PermValid.validB a = true) : Ev (fun k => impl_PermText.f k a) (bA []) := by
 unfold impl_PermText.f
 exact Ev.bind1 (implValid_ev a) (Ev.neg v (Ev.now _))

theorem cycsL_under {n : Nat} {f : Nat → Nat} (hb : Bij n f) : ∀ c, c ∈ cycsL n f → Under n c ∧ c.length ≤ n := by
 intro c hc
 obtain ⟨m, hm, _, rfl⟩ := cycsL_mem hc
 have p := (per_spec hb hm).2.1
 refine ⟨fun x hx => ?_, by rw [cyc_len]; exact p⟩
 obtain ⟨y, hy, rfl⟩ := List.mem_map.1 hx
 obtain ⟨k, rfl⟩ := (mem_cyc hb hm).1 hy
 exact ⟨_, it_lt hb k hm, rfl⟩

theorem putAll_short : ∀ (cs : List (List Int)) (p : List Int), impl_PermText.txt cs = [] → putAll cs p = p
 | [], _, _ => rfl
 | c :: t, p, h => by
  rw [impl_PermText.txt, List.append_eq_nil_iff] at h
  have : c.length < 2 := by
   have h1 := h.1
   unfold impl_PermText.row at h1
   split at h1
   ·assumption
   ·simp at h1
  rw [putAll, if_pos this]
  exact putAll_short t p h.2

theorem row_second {n : Nat} (hn : n ≤ 12) {c : List Int} (h : Under n c) (hc : 2 ≤ c.length) (r : List UInt8) : ∃ d t, impl_PermText.row c ++ r = 40 :: d :: t ∧ 48 ≤ d.toNat := by
 rw [row_join hc]
 match c, h, hc with
 | x :: y :: t, h, _ =>
  obtain ⟨m, hm, rfl⟩ := h x (by simp)
  have hr := dg_range (m := m) (by omega)
  cases e : dg (m : Int) with
  | nil =>
   have : 0 < (dg (m : Int)).length := by
    unfold dg
    rw [Int.toNat_natCast]
    by_cases k : m < 10
    ·rw [dec1 k]; simp
    ·rw [dec2 k]; simp
   rw [e] at this; simp at this
  | cons d q =>
   refine ⟨d, _, by simp [joinC, e]; rfl, (hr d (by rw [e]; simp)).1⟩

theorem txt_second {n : Nat} (hn : n ≤ 12) : ∀ (cs : List (List Int)), (∀ c, c ∈ cs → Under n c) → impl_PermText.txt cs = [] ∨ ∃ d t, impl_PermText.txt cs = 40 :: d :: t ∧ 48 ≤ d.toNat
 | [], _ => .inl rfl
 | c :: t, h => by
  by_cases k : c.length < 2
  ·have e : impl_PermText.txt (c :: t) = impl_PermText.txt t := by
    rw [impl_PermText.txt]; unfold impl_PermText.row; rw [if_pos k]; rfl
   rw [e]
   exact txt_second hn t fun x hx => h x (List.mem_cons_of_mem _ hx)
  ·rw [impl_PermText.txt]
   exact .inr (row_second hn (h c (by simp)) (by omega) _)

/-- The program reads what was written. -/
theorem implFrom_pm {n : Nat} {a : List Int} {f : Nat → Nat} (hf : IsPerm n a f) : Ev (fun k => impl_PermFrom.f k (n : Int) (bA (TT n f))) (a, true) := by
 have h1 := hf.1
 have h12 := hf.2.1
 have hb := hf.2.2.1
 have hl := TT_len h12 hb
 unfold impl_PermFrom.f
 have dt : (bA (TT n f)).data.toList = TT n f := rfl
 refine Ev.neg (by omega) (Ev.neg (by omega) (Ev.pos (by rw [dt]; omega) (Ev.bind1 (still_ev (n := n) (by omega)) (Ev.pos (by rw [pm_length]) ?_))))
 rw [dt]
 refine Ev.bind1 (a := some a) ?_ ?_
 ·rw [hf.2.2.2, ← putAll_pm hb]
  by_cases c : impl_PermText.txt (cycsL n f) = []
  ·have e : TT n f = [40, 41] := if_pos c
   rw [e, putAll_short _ _ c]
   refine Ev.step (f := fun _ => some (some (pm n fun i => i))) (fun k => ?_) (Ev.now _)
   rw [impl_PermFrom.l0, if_neg (by simp), if_pos rfl]
  ·have e : TT n f = impl_PermText.txt (cycsL n f) := if_neg c
   rw [e]
   have ne : impl_PermText.txt (cycsL n f) ≠ [40, 41] := by
    rcases txt_second h12 _ (fun c hc => (cycsL_under hb c hc).1) with k | ⟨d, t, k, hd⟩
    ·exact absurd k c
    ·rw [k]; intro z
     have : d = 41 := by injection z with _ z; injection z
     subst this; exact absurd hd (by decide)
   exact fromI_txt h12 ne _ (fun c hc => ⟨(cycsL_under hb c hc).1, by have := (cycsL_under hb c hc).2; omega⟩) _
 ·exact Ev.bind1 (implText_pm hf) (Ev.pos rfl (Ev.now _))

theorem inner_less {l : List UInt8} (h : Lib.hasPrefix l [40] = true) : (impl_PermFrom.inner l).1.length ≤ l.length ∧ (impl_PermFrom.inner l).2.1.length < l.length := by
 cases l with
 | nil => simp [Lib.hasPrefix] at h
 | cons x t =>
  have e : Lib.trimPrefix (x :: t) [40] = t := by unfold Lib.trimPrefix; rw [if_pos h]; rfl
  unfold impl_PermFrom.inner
  rw [e]
  unfold Lib.cut
  split
  ·simp; omega
  ·simp

theorem put_length (q : List Int) : ∀ d i (p : List Int), (impl_PermFrom.put q d i p).length = p.length
 | 0, _, _ => rfl
 | d + 1, i, p => by unfold impl_PermFrom.put; rw [put_length q d]; simp

/-- the program's reading ends -/
theorem implLoop_any {n : Int} (s : List UInt8) : ∀ d (rest : List UInt8), rest.length ≤ d → rest.length ≤ 5000000 → ∀ p : List Int, ∃ o, Ev (fun k => impl_PermFrom.l0 n s k p rest) o ∧ ∀ q, o = some q → q.length = p.length
 | d, rest, hd, hl, p => by
  by_cases c1 : rest = []
  ·refine ⟨some p, Ev.step (f := fun _ => some (some p)) (fun k => by rw [impl_PermFrom.l0, if_pos c1]) (Ev.now _), fun q e => by rw [← Option.some.inj e]⟩
  by_cases c2 : s = [40, 41]
  ·refine ⟨some p, Ev.step (f := fun _ => some (some p)) (fun k => by rw [impl_PermFrom.l0, if_neg c1, if_pos c2]) (Ev.now _), fun q e => by rw [← Option.some.inj e]⟩
  by_cases c3 : Lib.hasPrefix rest [40] = true
  case neg => exact ⟨none, Ev.step (f := fun _ => some none) (fun k => by rw [impl_PermFrom.l0, if_neg c1, if_neg c2, if_neg c3]) (Ev.now _), fun q e => by cases e⟩
  by_cases c4 : (impl_PermFrom.inner rest).2.2 = true
  case neg => exact ⟨none, Ev.step (f := fun _ => some none) (fun k => by rw [impl_PermFrom.l0, if_neg c1, if_neg c2, if_pos c3, if_neg c4]) (Ev.now _), fun q e => by cases e⟩
  obtain ⟨i1, i2⟩ := inner_less c3
  have c5 := fine_small (l := (impl_PermFrom.inner rest).1) (by omega)
  cases c6 : impl_PermFrom.pts n (impl_PermFrom.words (impl_PermFrom.inner rest).1) [] with
  | none => exact ⟨none, Ev.step (f := fun _ => some none) (fun k => by rw [impl_PermFrom.l0, if_neg c1, if_neg c2, if_pos c3, if_pos c4, if_pos c5]; simp only [c6]) (Ev.now _), fun q e => by cases e⟩
  | some q =>
   match d, hd with
   | 0, hd => exact absurd (List.length_eq_zero_iff.1 (Nat.le_zero.1 hd)) c1
   | d + 1, hd =>
    obtain ⟨o, h1, h2⟩ := implLoop_any (n := n) s d (impl_PermFrom.inner rest).2.1 (by omega) (by omega) (impl_PermFrom.put q q.length 0 p)
    refine ⟨o, Ev.step (fun k => ?_) h1, fun r e => by rw [h2 r e, put_length]⟩
    rw [impl_PermFrom.l0, if_neg c1, if_neg c2, if_pos c3, if_pos c4, if_pos c5]
    simp only [c6]

/-- what reading answers: no permutation, or the one that has the text -/
def Told (n : Int) (s : List UInt8) (r : List Int × Bool) : Prop := r = ([], false) ∨ ∃ (m : Nat) (f : Nat → Nat), n = m ∧ IsPerm m r.1 f ∧ r.2 = true ∧ s = TT m f

theorem implFrom_any (n : Int) {s : List UInt8} (hs : s.length ≤ 4000000) : ∃ r, Ev (fun k => impl_PermFrom.f k n (bA s)) r ∧ Told n s r := by
 unfold impl_PermFrom.f
 by_cases c1 : n < 1
 ·exact ⟨_, Ev.pos c1 (Ev.now _), .inl rfl⟩
 by_cases c2 : 12 < n
 ·exact ⟨_, Ev.neg c1 (Ev.pos c2 (Ev.now _)), .inl rfl⟩
 obtain ⟨m, rfl⟩ : ∃ m : Nat, n = m := ⟨n.toNat, by omega⟩
 have dt : (bA s).data.toList = s := rfl
 have hid : IsPerm m (pm m fun i => i) (fun i => i) := ⟨by omega, by omega, id_bij m, rfl⟩
 obtain ⟨o, h1, h2⟩ := implLoop_any (n := m) s s.length s (Nat.le_refl _) (by omega) (pm m fun i => i)
 have go : ∀ r, Ev (fun k => match o with
  | none => some ([], false)
  | some p => (impl_PermText.f k p).bind fun t => if t.toList = (bA s).toList then some (p, true) else some ([], false)) r → Ev (fun k => if (m : Int) < 1 then some ([], false) else if 12 < (m : Int) then some ([], false) else if (bA s).data.toList.length < 4000000000 then (impl_still.f k (m : Int)).bind fun p0 => if (p0.length : Int) = m then ((impl_PermFrom.l0 m (bA s).data.toList k p0 (bA s).data.toList).bind fun o => match o with
  | none => some ([], false)
  | some p => (impl_PermText.f k p).bind fun t => if t.toList = (bA s).toList then some (p, true) else some ([], false)) else none else none) r := by
  intro r hr
  refine Ev.neg c1 (Ev.neg c2 (Ev.pos (by rw [dt]; omega) (Ev.bind1 (still_ev (n := m) (by omega)) (Ev.pos (by rw [pm_length]) ?_))))
  rw [dt]
  exact Ev.bind1 h1 hr
 cases o with
 | none => exact ⟨_, go _ (Ev.now _), .inl rfl⟩
 | some p =>
  have hp : p.length = m := by rw [h2 p rfl, pm_length]
  by_cases v : impl_PermValid.validB p = true
  ·obtain ⟨f, hf⟩ := (valid_iff p).1 v
   rw [hp] at hf
   by_cases e : s = TT m f
   ·refine ⟨(p, true), go _ (Ev.bind1 (implText_pm hf) (Ev.pos (by rw [bA_toList, bA_toList, e]) (Ev.now _))), .inr ⟨m, f, rfl, hf, rfl, e⟩⟩
   ·refine ⟨([], false), go _ (Ev.bind1 (implText_pm hf) (Ev.neg (by rw [bA_toList, bA_toList]; exact fun k => e k.symm) (Ev.now _))), .inl rfl⟩
  ·by_cases e : s = []
   ·subst e
    have : Ev (fun k => impl_PermFrom.l0 m [] k (pm m fun i => i) []) (some (pm m fun i => i)) :=
     Ev.step (f := fun _ => some (some (pm m fun i => i))) (fun k => by rw [impl_PermFrom.l0, if_pos rfl]) (Ev.now _)
    obtain ⟨k1, e1⟩ := h1
    obtain ⟨k2, e2⟩ := this
    have := (e1 (max k1 k2) (by omega)).symm.trans (e2 (max k1 k2) (by omega))
    have := Option.some.inj (Option.some.inj this)
    subst this
    exact absurd (isPerm_valid hid) v
   ·refine ⟨([], false), go _ (Ev.bind1 (implText_no v) (Ev.neg (by rw [bA_toList, bA_toList]; exact fun k => e k.symm) (Ev.now _))), .inl rfl⟩

/-- the numbers of a text, and -1 for each opening bracket -/
def scan : List UInt8 → Bool → List Int → List Int
 | [], _, out => out
 | c :: t, fr, out => if c.toNat = 40 then scan t true (out ++ [-1]) else if c.toNat < 48 ∨ 57 < c.toNat then scan t true out else if fr = true then scan t false (out ++ [((c.toNat - 48 : Nat) : Int)]) else scan t false (out.set (out.length - 1) (mn 1000 (10 * rd out ((out.length - 1 : Nat) : Int) + ((c.toNat - 48 : Nat) : Int))))

theorem bt_bA {s : List UInt8} {i : Nat} (h : i < s.length) : bt (bA s) (i : Int) = ((s[i]).toNat : Int) := by
 unfold bt
 rw [dif_pos (by rw [Int.toNat_natCast]; exact h)]
 rfl

theorem read_ev {s : List UInt8} (hs : s.length ≤ 4000000) : ∀ d i, i + d = s.length → ∀ (fr : Bool) (out : List Int), out.length ≤ i → (∀ x, x ∈ out → -1 ≤ x ∧ x ≤ 1000) → (fr = false → 0 < out.length ∧ 0 ≤ rd out ((out.length - 1 : Nat) : Int)) →
 Ev (fun k => spec_l1Read.l0 k (bA s) out fr (i : Int)) (scan (s.drop i) fr out) ∧ (∀ x, x ∈ scan (s.drop i) fr out → -1 ≤ x ∧ x ≤ 1000) ∧ (scan (s.drop i) fr out).length ≤ s.length := by
 intro d
 induction d with
 | zero =>
  intro i hi fr out h1 h2 h3
  rw [List.drop_of_length_le (by omega), scan]
  exact ⟨Ev.step (f := fun _ => some out) (fun k => by rw [spec_l1Read.l0, if_neg (by rw [bA_size]; omega)]) (Ev.now _), h2, by omega⟩
 | succ d ih =>
  intro i hi fr out h1 h2 h3
  have hi' : i < s.length := by omega
  rw [List.drop_eq_getElem_cons hi', scan]
  have b := bt_bA hi'
  have hb : (s[i]).toNat < 256 := UInt8.toNat_lt _
  have w : wrap64 ((i : Int) + 1) = ((i + 1 : Nat) : Int) := wrap_nat (by omega)
  by_cases c1 : (s[i]).toNat = 40
  ·rw [if_pos c1]
   obtain ⟨e, g⟩ := ih (i + 1) (by omega) true (out ++ [-1]) (by simp; omega) (fun x hx => by
    rcases List.mem_append.1 hx with hx | hx
    ·exact h2 x hx
    ·simp at hx; omega) (by simp)
   refine ⟨Ev.step (fun k => by rw [spec_l1Read.l0]) ?_, g⟩
   rw [b, w]
   exact Ev.pos (by rw [bA_size]; omega) (Ev.pos (by omega) (Ev.pos (by omega) (Ev.pos (by omega) e)))
  rw [if_neg c1]
  by_cases c2 : (s[i]).toNat < 48 ∨ 57 < (s[i]).toNat
  ·rw [if_pos c2]
   obtain ⟨e, g⟩ := ih (i + 1) (by omega) true out (by omega) h2 (by simp)
   refine ⟨Ev.step (fun k => by rw [spec_l1Read.l0]) ?_, g⟩
   rw [b]
   refine Ev.pos (by rw [bA_size]; omega) (Ev.pos (by omega) (Ev.neg (by omega) ?_))
   have nx : Ev (fun k => spec_l1Read.j1 k (bA s) out fr (i : Int) true) (scan (s.drop (i + 1)) true out) := by
    refine Ev.step (fun k => by rw [spec_l1Read.j1]) (Ev.pos rfl ?_)
    rw [w]; exact e
   by_cases c3 : (s[i]).toNat < 48
   ·exact Ev.pos (by omega) nx
   ·refine Ev.neg (by omega) ?_
    rw [decide_eq_true (by omega)]
    exact nx
  rw [if_neg c2]
  have dgt : ((((s[i]).toNat : Nat) : Int) - 48) % 256 = (((s[i]).toNat - 48 : Nat) : Int) := by omega
  have pre : ∀ R, Ev (fun k => spec_l1Read.j1 k (bA s) out fr (i : Int) false) R → Ev (fun k => spec_l1Read.l0 k (bA s) out fr (i : Int)) R := by
   intro R hR
   refine Ev.step (fun k => by rw [spec_l1Read.l0]) ?_
   rw [b]
   refine Ev.pos (by rw [bA_size]; omega) (Ev.pos (by omega) (Ev.neg (by omega) (Ev.neg (by omega) ?_)))
   rw [decide_eq_false (by omega)]
   exact hR
  by_cases c3 : fr = true
  ·rw [if_pos c3]
   obtain ⟨e, g⟩ := ih (i + 1) (by omega) false (out ++ [(((s[i]).toNat - 48 : Nat) : Int)]) (by simp; omega) (fun x hx => by
    rcases List.mem_append.1 hx with hx | hx
    ·exact h2 x hx
    ·simp at hx; omega) (fun _ => ⟨by simp, by rw [rd_get (by simp)]; simp⟩)
   refine ⟨pre _ (Ev.step (fun k => by rw [spec_l1Read.j1]) ?_), g⟩
   rw [b, w, dgt]
   exact Ev.neg (by simp) (Ev.pos c3 (Ev.pos (by omega) (Ev.pos (by rw [bA_size]; omega) (Ev.pos (by omega) e))))
  ·rw [if_neg c3]
   have c3' : fr = false := by simpa using c3
   obtain ⟨pl, ge⟩ := h3 c3'
   have rb : -1 ≤ rd out ((out.length - 1 : Nat) : Int) ∧ rd out ((out.length - 1 : Nat) : Int) ≤ 1000 := by
    rw [rd_get (by omega)]; exact h2 _ (List.getElem_mem _)
   have w1 : wrap64 ((out.length : Int) - 1) = ((out.length - 1 : Nat) : Int) := by unfold wrap64; omega
   have w2 : wrap64 ((wrap64 (10 * rd out ((out.length - 1 : Nat) : Int))) + (((s[i]).toNat - 48 : Nat) : Int)) = 10 * rd out ((out.length - 1 : Nat) : Int) + (((s[i]).toNat - 48 : Nat) : Int) := by unfold wrap64; omega
   have nb : 0 ≤ mn 1000 (10 * rd out ((out.length - 1 : Nat) : Int) + (((s[i]).toNat - 48 : Nat) : Int)) ∧ mn 1000 (10 * rd out ((out.length - 1 : Nat) : Int) + (((s[i]).toNat - 48 : Nat) : Int)) ≤ 1000 := by
    unfold mn; split <;> omega
   obtain ⟨e, g⟩ := ih (i + 1) (by omega) false (out.set (out.length - 1) (mn 1000 (10 * rd out ((out.length - 1 : Nat) : Int) + (((s[i]).toNat - 48 : Nat) : Int)))) (by simp; omega) (fun x hx => by
    rcases List.mem_or_eq_of_mem_set hx with hx | hx
    ·exact h2 x hx
    ·rw [hx]; omega) (fun _ => ⟨by simp; omega, by rw [rd_get (by simp; omega)]; simpa using nb.1⟩)
   refine ⟨pre _ (Ev.step (fun k => by rw [spec_l1Read.j1]) ?_), g⟩
   rw [b, w, dgt, w1, w2, c3']
   exact Ev.neg (by simp) (Ev.neg (by simp) (Ev.pos (by omega) (Ev.pos (by omega) (Ev.pos (by omega) (Ev.pos (by rw [bA_size]; omega) e)))))

theorem l1Read_ev {s : List UInt8} (hs : s.length ≤ 4000000) : Ev (fun k => spec_l1Read.f k (bA s)) (scan s true []) ∧ (∀ x, x ∈ scan s true [] → -1 ≤ x ∧ x ≤ 1000) ∧ (scan s true []).length ≤ s.length :=
 read_ev hs s.length 0 (by omega) true [] (by simp) (by simp) (by simp)

/-- one round of the reference's reading -/
theorem specRead_step {n : Nat} (hn1 : 1 ≤ n) (hn : n ≤ 12) {s : List UInt8} {L out : List Int} {first y : Int} {i : Nat} (hL : L.length ≤ 4000000) (hi : i < L.length) (ho : out.length = n) (h0 : 0 ≤ rd L (i : Int)) {R : List Int × Bool}
 (k : Ev (fun k => if (0 ≤ rd L (i : Int) ∧ rd L (i : Int) ≤ (n : Int) - 1) ∧ 0 ≤ y ∧ y ≤ (n : Int) - 1 then spec_PermFrom.l0 k (n : Int) (bA s) (out.set (rd L (i : Int)).toNat y) L first ((i + 1 : Nat) : Int) else some ([], false)) R)
 (hy : if i + 1 < L.length ∧ 0 ≤ rd L ((i + 1 : Nat) : Int) then y = rd L ((i + 1 : Nat) : Int) else if 0 ≤ first then first < L.length ∧ y = rd L first else y = rd L (i : Int)) :
 Ev (fun k => spec_PermFrom.l0 k (n : Int) (bA s) out L first (i : Int)) R := by
 have w : wrap64 ((i : Int) + 1) = ((i + 1 : Nat) : Int) := wrap_nat (by omega)
 have wn : wrap64 ((n : Int) - 1) = (n : Int) - 1 := by unfold wrap64; omega
 have j2 : Ev (fun k => spec_PermFrom.j2 k (n : Int) (bA s) out L first (i : Int) y) R := by
  refine Ev.step (fun k => by rw [spec_PermFrom.j2]) (Ev.pos (by omega) (Ev.pos (by omega) ?_))
  simp only [l6In_eq, Option.bind_some, wn, w]
  by_cases c1 : 0 ≤ rd L (i : Int) ∧ rd L (i : Int) ≤ (n : Int) - 1
  ·rw [decide_eq_true c1]
   refine Ev.pos rfl ?_
   by_cases c2 : 0 ≤ y ∧ y ≤ (n : Int) - 1
   ·rw [decide_eq_true c2]
    rw [show (fun k => if (0 ≤ rd L (i : Int) ∧ rd L (i : Int) ≤ (n : Int) - 1) ∧ 0 ≤ y ∧ y ≤ (n : Int) - 1 then spec_PermFrom.l0 k (n : Int) (bA s) (out.set (rd L (i : Int)).toNat y) L first ((i + 1 : Nat) : Int) else some ([], false)) = fun k => spec_PermFrom.l0 k (n : Int) (bA s) (out.set (rd L (i : Int)).toNat y) L first ((i + 1 : Nat) : Int) from funext fun k => if_pos ⟨c1, c2⟩] at k
    exact Ev.pos rfl (Ev.pos (by omega) (Ev.pos (by omega) k))
   ·rw [decide_eq_false c2]
    rw [show (fun k => if (0 ≤ rd L (i : Int) ∧ rd L (i : Int) ≤ (n : Int) - 1) ∧ 0 ≤ y ∧ y ≤ (n : Int) - 1 then spec_PermFrom.l0 k (n : Int) (bA s) (out.set (rd L (i : Int)).toNat y) L first ((i + 1 : Nat) : Int) else some ([], false)) = fun k => some ([], false) from funext fun k => if_neg fun h => c2 h.2] at k
    exact Ev.neg (by simp) k
  ·rw [decide_eq_false c1]
   rw [show (fun k => if (0 ≤ rd L (i : Int) ∧ rd L (i : Int) ≤ (n : Int) - 1) ∧ 0 ≤ y ∧ y ≤ (n : Int) - 1 then spec_PermFrom.l0 k (n : Int) (bA s) (out.set (rd L (i : Int)).toNat y) L first ((i + 1 : Nat) : Int) else some ([], false)) = fun k => some ([], false) from funext fun k => if_neg fun h => c1 h.1] at k
   exact Ev.neg (by simp) k
 have j1 : ∀ b : Bool, (b = true → i + 1 < L.length ∧ y = rd L ((i + 1 : Nat) : Int)) → (b = false → if 0 ≤ first then first < L.length ∧ y = rd L first else y = rd L (i : Int)) → Ev (fun k => spec_PermFrom.j1 k (n : Int) (bA s) out L first (i : Int) (rd L (i : Int)) b) R := by
  intro b hb1 hb2
  refine Ev.step (fun k => by rw [spec_PermFrom.j1]) ?_
  rw [w]
  cases b with
  | true =>
   obtain ⟨a1, a2⟩ := hb1 rfl
   rw [a2] at j2
   exact Ev.pos rfl (Ev.pos (by omega) (Ev.pos (by omega) j2))
  | false =>
   have a := hb2 rfl
   by_cases c : 0 ≤ first
   ·rw [if_pos c] at a
    rw [a.2] at j2
    exact Ev.neg (by simp) (Ev.pos c (Ev.pos c (Ev.pos a.1 j2)))
   ·rw [if_neg c] at a
    rw [a] at j2
    exact Ev.neg (by simp) (Ev.neg c j2)
 refine Ev.step (fun k => by rw [spec_PermFrom.l0]) (Ev.pos (by omega) (Ev.pos (by omega) (Ev.neg (by omega) ?_)))
 rw [w]
 by_cases c1 : i + 1 < L.length
 ·refine Ev.pos (by omega) (Ev.pos (by omega) ?_)
  by_cases c2 : rd L ((i + 1 : Nat) : Int) ≥ 0
  ·rw [decide_eq_true c2]
   rw [if_pos ⟨c1, c2⟩] at hy
   exact j1 true (fun _ => ⟨c1, hy⟩) (fun h => by cases h)
  ·rw [decide_eq_false c2]
   rw [if_neg (fun h => c2 h.2)] at hy
   exact j1 false (fun h => by cases h) (fun _ => hy)
 ·refine Ev.neg (by omega) ?_
  rw [if_neg (fun h => c1 h.1)] at hy
  exact j1 false (fun h => by cases h) (fun _ => hy)

theorem specRead_open {n : Nat} {s : List UInt8} {L out : List Int} {first : Int} {i : Nat} (hL : L.length ≤ 4000000) (hi : i < L.length) (h0 : rd L (i : Int) < 0) {R : List Int × Bool}
 (k : Ev (fun k => spec_PermFrom.l0 k (n : Int) (bA s) out L ((i + 1 : Nat) : Int) ((i + 1 : Nat) : Int)) R) : Ev (fun k => spec_PermFrom.l0 k (n : Int) (bA s) out L first (i : Int)) R := by
 have w : wrap64 ((i : Int) + 1) = ((i + 1 : Nat) : Int) := wrap_nat (by omega)
 refine Ev.step (fun k => by rw [spec_PermFrom.l0]) (Ev.pos (by omega) (Ev.pos (by omega) (Ev.pos h0 ?_)))
 rw [w]; exact k

theorem specRead_end {n : Nat} {s : List UInt8} {L out : List Int} {first : Int} {i : Nat} (hi : ¬ i < L.length) {t : List UInt8} (ht : Ev (fun k => spec_PermText.f k out) (bA t)) :
 Ev (fun k => spec_PermFrom.l0 k (n : Int) (bA s) out L first (i : Int)) (if t = s then (out, true) else ([], false)) := by
 refine Ev.step (fun k => by rw [spec_PermFrom.l0]) (Ev.neg (by omega) (Ev.bind1 ht ?_))
 by_cases c : t = s
 ·rw [show (if t = s then (out, true) else ([], false)) = (out, true) from if_pos c]
  exact Ev.pos (by rw [bA_toList, bA_toList, c]) (Ev.now _)
 ·rw [show (if t = s then (out, true) else ([], false)) = ([], false) from if_neg c]
  exact Ev.neg (by rw [bA_toList, bA_toList]; exact c) (Ev.now _)

theorem specText_any {n : Nat} {s : List UInt8} (hs : s ≠ []) {out : List Int} (hn : n ≤ 12) (ho : out.length = n) : ∃ t, Ev (fun k => spec_PermText.f k out) (bA t) ∧ Told n s (if t = s then (out, true) else ([], false)) := by
 by_cases v : impl_PermValid.validB out = true
 ·obtain ⟨f, hf⟩ := (valid_iff out).1 v
  rw [ho] at hf
  refine ⟨_, specText_pm hf, ?_⟩
  by_cases c : TT n f = s
  ·rw [if_pos c]; exact .inr ⟨n, f, rfl, hf, rfl, c.symm⟩
  ·rw [if_neg c]; exact .inl rfl
 ·refine ⟨_, specText_no (by omega) v, ?_⟩
  rw [if_neg (fun h => hs h.symm)]; exact .inl rfl

/-- the reference's reading ends -/
theorem specLoop_any {n : Nat} (hn1 : 1 ≤ n) (hn : n ≤ 12) {s : List UInt8} (hs : s ≠ []) {L : List Int} (hL : L.length ≤ 4000000) : ∀ d i, i + d = L.length → ∀ (out : List Int) (first : Int), out.length = n → first ≤ i →
 ∃ r, Ev (fun k => spec_PermFrom.l0 k (n : Int) (bA s) out L first (i : Int)) r ∧ Told n s r := by
 intro d
 induction d with
 | zero =>
  intro i hi out first ho hf
  obtain ⟨t, h1, h2⟩ := specText_any hs hn ho
  exact ⟨_, specRead_end (by omega) h1, h2⟩
 | succ d ih =>
  intro i hi out first ho hf
  have hi' : i < L.length := by omega
  by_cases c : rd L (i : Int) < 0
  ·obtain ⟨r, h1, h2⟩ := ih (i + 1) (by omega) out ((i + 1 : Nat) : Int) ho (Int.le_refl _)
   exact ⟨r, specRead_open hL hi' c h1, h2⟩
  have hy : ∃ y, if i + 1 < L.length ∧ 0 ≤ rd L ((i + 1 : Nat) : Int) then y = rd L ((i + 1 : Nat) : Int) else if 0 ≤ first then first < L.length ∧ y = rd L first else y = rd L (i : Int) := by
   split
   ·exact ⟨_, rfl⟩
   ·split
    ·exact ⟨_, by omega, rfl⟩
    ·exact ⟨_, rfl⟩
  obtain ⟨y, hy⟩ := hy
  by_cases g : (0 ≤ rd L (i : Int) ∧ rd L (i : Int) ≤ (n : Int) - 1) ∧ 0 ≤ y ∧ y ≤ (n : Int) - 1
  ·obtain ⟨r, h1, h2⟩ := ih (i + 1) (by omega) (out.set (rd L (i : Int)).toNat y) first (by simpa using ho) (by omega)
   exact ⟨r, specRead_step hn1 hn hL hi' ho (by omega) (Ev.pos g h1) hy, h2⟩
  ·exact ⟨_, specRead_step hn1 hn hL hi' ho (by omega) (Ev.neg g (Ev.now _)) hy, .inl rfl⟩

theorem specFrom_any (n : Int) {s : List UInt8} (hs : s.length ≤ 4000000) : ∃ r, Ev (fun k => spec_PermFrom.f k n (bA s)) r ∧ Told n s r := by
 unfold spec_PermFrom.f
 simp only [l6In_eq, Option.bind_some]
 by_cases c : 1 ≤ n ∧ n ≤ 12
 case neg => exact ⟨_, Ev.neg (by simpa using c) (Ev.now _), .inl rfl⟩
 obtain ⟨m, rfl⟩ : ∃ m : Nat, n = m := ⟨n.toNat, by omega⟩
 obtain ⟨h1, h2, h3⟩ := l1Read_ev hs
 have hid : IsPerm m (pm m fun i => i) (fun i => i) := ⟨by omega, by omega, id_bij m, rfl⟩
 have go : ∀ r, Ev (fun k => spec_PermFrom.l0 k (m : Int) (bA s) (pm m fun i => i) (scan s true []) (-1) ((0 : Nat) : Int)) r → Ev (fun k => if decide (1 ≤ (m : Int) ∧ (m : Int) ≤ 12) = true then ((spec_l1Same.f k (m : Int)).bind fun t229 => ((spec_l1Read.f k (bA s)).bind fun t232 => (spec_PermFrom.l0 k (m : Int) (bA s) t229 t232 (-1) 0))) else (some ((([] : List Int)), false))) r :=
  fun r hr => Ev.pos (by simpa using c) (Ev.bind1 (l1Same_ev (by omega)) (Ev.bind1 h1 hr))
 by_cases e : s = []
 ·subst e
  have r := specRead_end (n := m) (s := []) (L := scan [] true []) (first := -1) (i := 0) (by simp [scan]) (specText_pm hid)
  rw [if_neg (TT_ne _ _)] at r
  exact ⟨_, go _ r, .inl rfl⟩
 ·obtain ⟨r, g1, g2⟩ := specLoop_any (n := m) (by omega) (by omega) e (L := scan s true []) (by omega) (scan s true []).length 0 (by omega) (pm m fun i => i) (-1) (pm_length _ _) (by omega)
  exact ⟨r, go _ g1, g2⟩

theorem digit_nat {m : Nat} (h : m < 10) : (UInt8.ofNat (48 + m)).toNat = 48 + m := by
 rw [UInt8.toNat_ofNat']; exact Nat.mod_eq_of_lt (by omega)

theorem scan_digit {d : UInt8} (h1 : 48 ≤ d.toNat) (h2 : d.toNat ≤ 57) (t : List UInt8) (out : List Int) : scan (d :: t) true out = scan t false (out ++ [((d.toNat - 48 : Nat) : Int)]) := by
 rw [scan, if_neg (by omega), if_neg (by omega), if_pos rfl]

theorem scan_more {d : UInt8} (h1 : 48 ≤ d.toNat) (h2 : d.toNat ≤ 57) (t : List UInt8) (out : List Int) (x : Int) (hx : 10 * x + ((d.toNat - 48 : Nat) : Int) < 1000) : scan (d :: t) false (out ++ [x]) = scan t false (out ++ [10 * x + ((d.toNat - 48 : Nat) : Int)]) := by
 rw [scan, if_neg (by omega), if_neg (by omega), if_neg (by simp)]
 have l : (out ++ [x]).length - 1 = out.length := by simp
 have r : rd (out ++ [x]) ((out.length : Nat) : Int) = x := by rw [rd_get (by simp)]; simp
 rw [l, r, show mn 1000 (10 * x + ((d.toNat - 48 : Nat) : Int)) = 10 * x + ((d.toNat - 48 : Nat) : Int) by unfold mn; rw [if_pos (by omega)]]
 simp

theorem scan_dg {m : Nat} (hm : m < 100) (t : List UInt8) (out : List Int) : scan (dg (m : Int) ++ t) true out = scan t false (out ++ [(m : Int)]) := by
 unfold dg
 rw [Int.toNat_natCast]
 by_cases k : m < 10
 ·have e := digit_nat k
  rw [dec1 k, List.cons_append, List.nil_append, scan_digit (by omega) (by omega), e]
  congr 3; omega
 ·have e1 := digit_nat (m := m / 10) (by omega)
  have e2 := digit_nat (m := m % 10) (by omega)
  rw [dec2 k, dec1 (n := m / 10) (by omega), List.append_assoc, List.cons_append, List.nil_append, List.cons_append, List.nil_append, scan_digit (by omega) (by omega), scan_more (by omega) (by omega) _ _ _ (by omega), e1, e2]
  congr 3; omega

theorem scan_items {n : Nat} (hn : n ≤ 12) : ∀ (c : List Int) (b fr : Bool) (out : List Int) (t : List UInt8), c ≠ [] → Under n c → scan (impl_PermText.items b c ++ t) fr out = scan t false (out ++ (if b then [-1] else []) ++ c)
 | [], _, _, _, _, h, _ => absurd rfl h
 | x :: q, b, fr, out, t, _, h => by
  obtain ⟨m, hm, rfl⟩ := h x (by simp)
  have hq : Under n q := fun y hy => h y (List.mem_cons_of_mem _ hy)
  have st : ∀ u, scan ((if b then (40 : UInt8) else 44) :: u) fr out = scan u true (out ++ (if b then [-1] else [])) := by
   intro u
   cases b with
   | true => rw [if_pos rfl, if_pos rfl, scan, if_pos (by decide)]
   | false => rw [if_neg (by simp), if_neg (by simp), scan, if_neg (by decide), if_pos (by decide), List.append_nil]
  rw [impl_PermText.items, List.cons_append, st, List.append_assoc]
  have d := scan_dg (m := m) (by omega) (impl_PermText.items false q ++ t) (out ++ (if b then [-1] else []))
  unfold dg at d
  rw [d]
  cases q with
  | nil => simp [impl_PermText.items]
  | cons y z =>
   rw [scan_items hn (y :: z) false false _ t (by simp) hq]
   simp

/-- what the reference reads of the text of some rows -/
def flat : List (List Int) → List Int
 | [] => []
 | c :: t => (if c.length < 2 then [] else -1 :: c) ++ flat t

theorem scan_txt {n : Nat} (hn : n ≤ 12) : ∀ (cs : List (List Int)), (∀ c, c ∈ cs → Under n c) → ∀ out, scan (impl_PermText.txt cs) true out = out ++ flat cs
 | [], _, out => by simp [impl_PermText.txt, scan, flat]
 | c :: t, h, out => by
  have ih := scan_txt hn t (fun x hx => h x (List.mem_cons_of_mem _ hx))
  rw [impl_PermText.txt, flat]
  unfold impl_PermText.row
  by_cases k : c.length < 2
  ·rw [if_pos k, if_pos k, List.nil_append, List.nil_append]; exact ih out
  ·rw [if_neg k, if_neg k, List.append_assoc, scan_items hn c true true out _ (by intro e; subst e; simp at k) (h c (by simp)), List.cons_append, List.nil_append, scan, if_neg (by decide), if_pos (by decide), ih]
   simp

theorem flat_under {n : Nat} : ∀ (cs : List (List Int)), (∀ c, c ∈ cs → Under n c) → flat cs = [] ∨ ∃ t, flat cs = -1 :: t
 | [], _ => .inl rfl
 | c :: t, h => by
  rw [flat]
  by_cases k : c.length < 2
  ·rw [if_pos k]; exact flat_under t fun x hx => h x (List.mem_cons_of_mem _ hx)
  ·rw [if_neg k]; exact .inr ⟨_, rfl⟩

theorem rd_drop {L a b : List Int} {i j : Nat} (h : L.drop i = a ++ b) (hj : j < a.length) : i + j < L.length ∧ rd L ((i + j : Nat) : Int) = rd a (j : Int) := by
 have e : (L.drop i).length = a.length + b.length := by rw [h, List.length_append]
 rw [List.length_drop] at e
 have hl : i + j < L.length := by omega
 refine ⟨hl, ?_⟩
 rw [rd_get hl, rd_get hj]
 have : (L.drop i)[j]? = (a ++ b)[j]? := by rw [h]
 rw [List.getElem?_drop, List.getElem?_eq_getElem hl, List.getElem?_append_left hj, List.getElem?_eq_getElem hj] at this
 exact Option.some.inj this

/-- the reference reads one row -/
theorem specRow_ev {n : Nat} (hn1 : 1 ≤ n) (hn : n ≤ 12) {s : List UInt8} {L c rest : List Int} {i0 : Nat} (hL : L.length ≤ 4000000) (hd : L.drop i0 = c ++ rest) (hr : rest = [] ∨ ∃ t, rest = -1 :: t) (hu : Under n c) {R : List Int × Bool} :
 ∀ d j, j + d = c.length → ∀ p : List Int, p.length = n → Ev (fun k => spec_PermFrom.l0 k (n : Int) (bA s) (impl_PermFrom.put c d j p) L (i0 : Int) ((i0 + c.length : Nat) : Int)) R → Ev (fun k => spec_PermFrom.l0 k (n : Int) (bA s) p L (i0 : Int) ((i0 + j : Nat) : Int)) R := by
 intro d
 induction d with
 | zero =>
  intro j hj p hp k
  rw [show j = c.length by omega]; exact k
 | succ d ih =>
  intro j hj p hp k
  have hj' : j < c.length := by omega
  obtain ⟨a1, a2⟩ := rd_drop hd hj'
  have inn : ∀ q, q < c.length → 0 ≤ rd c (q : Int) ∧ rd c (q : Int) ≤ (n : Int) - 1 := by
   intro q hq
   rw [rd_get hq]
   obtain ⟨m, hm, e⟩ := hu _ (List.getElem_mem hq)
   omega
  have b1 := inn j hj'
  have b2 := inn ((j + 1) % c.length) (Nat.mod_lt _ (by omega))
  refine specRead_step hn1 hn hL a1 hp (by omega) (y := rd c (((j + 1) % c.length : Nat) : Int)) ?_ ?_
  ·rw [a2]
   refine Ev.pos ⟨b1, b2⟩ (ih (j + 1) (by omega) _ (by simpa using hp) ?_)
   rw [impl_PermFrom.put] at k
   exact k
  ·by_cases e : j + 1 < c.length
   ·obtain ⟨c1, c2⟩ := rd_drop hd e
    have b3 := inn (j + 1) e
    rw [Nat.mod_eq_of_lt e, Nat.add_assoc, if_pos ⟨c1, by omega⟩, c2]
   ·have e : j + 1 = c.length := by omega
    have ne : ¬ (i0 + j + 1 < L.length ∧ 0 ≤ rd L ((i0 + j + 1 : Nat) : Int)) := by
     rintro ⟨z1, z2⟩
     have ll : (L.drop i0).length = c.length + rest.length := by rw [hd, List.length_append]
     rw [List.length_drop] at ll
     rcases hr with rfl | ⟨t, rfl⟩
     ·simp at ll; omega
     ·have hd2 : L.drop i0 = (c ++ [-1]) ++ t := by rw [hd]; simp
      obtain ⟨_, y2⟩ := rd_drop (j := j + 1) hd2 (by simp; omega)
      rw [Nat.add_assoc] at z2
      rw [y2] at z2
      have : rd (c ++ [-1]) ((j + 1 : Nat) : Int) = -1 := by
       rw [rd_get (by simp; omega)]; simp [e]
      omega
    rw [if_neg ne, if_pos (by omega), e, Nat.mod_self]
    obtain ⟨c1, c2⟩ := rd_drop (j := 0) hd (by omega)
    rw [Nat.add_zero] at c1 c2
    exact ⟨by omega, c2.symm⟩

theorem specRows_ev {n : Nat} (hn1 : 1 ≤ n) (hn : n ≤ 12) {s : List UInt8} {L : List Int} (hL : L.length ≤ 4000000) {R : List Int × Bool} : ∀ (cs : List (List Int)), (∀ c, c ∈ cs → Under n c) → ∀ (i : Nat) (first : Int) (p : List Int), i ≤ L.length → L.drop i = flat cs → p.length = n →
 (∀ first', Ev (fun k => spec_PermFrom.l0 k (n : Int) (bA s) (putAll cs p) L first' ((L.length : Nat) : Int)) R) → Ev (fun k => spec_PermFrom.l0 k (n : Int) (bA s) p L first (i : Int)) R
 | [], _, i, first, p, hi, hd, hp, k => by
  have : L.length ≤ i := List.drop_eq_nil_iff.1 hd
  rw [show i = L.length by omega]; exact k first
 | c :: t, h, i, first, p, hi, hd, hp, k => by
  rw [flat] at hd
  rw [putAll] at k
  have ht : ∀ x, x ∈ t → Under n x := fun x hx => h x (List.mem_cons_of_mem _ hx)
  by_cases e : c.length < 2
  ·rw [if_pos e, List.nil_append] at hd
   rw [if_pos e] at k
   exact specRows_ev hn1 hn hL t ht i first p hi hd hp k
  ·rw [if_neg e] at hd k
   have hd1 : L.drop i = [-1] ++ (c ++ flat t) := by rw [hd]; simp
   obtain ⟨a1, a2⟩ := rd_drop (j := 0) hd1 (by simp)
   rw [Nat.add_zero] at a1 a2
   have hd2 : L.drop (i + 1) = c ++ flat t := by rw [← List.drop_drop, hd1]; simp
   have hd3 : L.drop (i + 1 + c.length) = flat t := by rw [← List.drop_drop, hd2]; simp
   have ll : (L.drop (i + 1)).length = c.length + (flat t).length := by rw [hd2, List.length_append]
   rw [List.length_drop] at ll
   refine specRead_open hL a1 (by rw [a2]; decide) ?_
   have := specRow_ev hn1 hn (s := s) hL hd2 (flat_under t ht) (h c (by simp)) (R := R) c.length 0 (by omega) p hp
    (specRows_ev hn1 hn hL t ht _ _ _ (by omega) hd3 (by rw [put_length]; exact hp) k)
   exact this

/-- The reference reads what was written. -/
theorem specFrom_pm {n : Nat} {a : List Int} {f : Nat → Nat} (hf : IsPerm n a f) : Ev (fun k => spec_PermFrom.f k (n : Int) (bA (TT n f))) (a, true) := by
 have h1 := hf.1
 have h12 := hf.2.1
 have hb := hf.2.2.1
 have hl := TT_len h12 hb
 have hu : ∀ c, c ∈ cycsL n f → Under n c := fun c hc => (cycsL_under hb c hc).1
 obtain ⟨r1, r2, r3⟩ := l1Read_ev (s := TT n f) (by omega)
 unfold spec_PermFrom.f
 simp only [l6In_eq, Option.bind_some]
 refine Ev.pos (by simp; omega) (Ev.bind1 (l1Same_ev (by omega)) (Ev.bind1 r1 ?_))
 have fin : ∀ (L : List Int) (first : Int), Ev (fun k => spec_PermFrom.l0 k (n : Int) (bA (TT n f)) a L first ((L.length : Nat) : Int)) (a, true) := by
  intro L first
  have := specRead_end (n := n) (s := TT n f) (L := L) (first := first) (i := L.length) (by omega) (specText_pm hf)
  rw [if_pos rfl] at this
  exact this
 have ea : putAll (cycsL n f) (pm n fun i => i) = a := by rw [putAll_pm hb]; exact hf.2.2.2.symm
 by_cases c : impl_PermText.txt (cycsL n f) = []
 ·have e : scan (TT n f) true [] = [-1] := by
   rw [show TT n f = [40, 41] from if_pos c, scan, if_pos (by decide), scan, if_neg (by decide), if_pos (by decide), scan]; rfl
  rw [putAll_short _ _ c] at ea
  rw [e, ea]
  exact specRead_open (i := 0) (by simp) (by simp) (by decide) (fin [-1] _)
 ·have e : scan (TT n f) true [] = flat (cycsL n f) := by
   rw [show TT n f = impl_PermText.txt (cycsL n f) from if_neg c, scan_txt h12 _ hu]; rfl
  rw [e] at r3 ⊢
  refine specRows_ev h1 h12 (by omega) (cycsL n f) hu 0 (-1) _ (by omega) rfl (pm_length _ _) fun first' => ?_
  rw [ea]; exact fin _ _

/-- reference and program read the same -/
theorem from_both (n : Int) {s : List UInt8} (hs : s.length ≤ 4000000) : ∃ r, Ev (fun k => spec_PermFrom.f k n (bA s)) r ∧ Ev (fun k => impl_PermFrom.f k n (bA s)) r ∧ Told n s r := by
 obtain ⟨r1, a1, a2⟩ := specFrom_any n hs
 obtain ⟨r2, b1, b2⟩ := implFrom_any n hs
 rcases b2 with rfl | ⟨m, f, rfl, hf, ht, rfl⟩
 ·rcases a2 with rfl | ⟨m, f, rfl, hf, ht, rfl⟩
  ·exact ⟨_, a1, b1, .inl rfl⟩
  ·have e : r1 = (r1.1, true) := by rw [← ht]
   refine ⟨r1, a1, ?_, .inr ⟨m, f, rfl, hf, ht, rfl⟩⟩
   rw [e]; exact implFrom_pm hf
 ·have e : r2 = (r2.1, true) := by rw [← ht]
  refine ⟨r2, ?_, b1, .inr ⟨m, f, rfl, hf, ht, rfl⟩⟩
  rw [e]; exact specFrom_pm hf

theorem bA_of (s : ByteArray) : s = bA s.data.toList := by cases s; simp [bA]

theorem items_last {n : Nat} (hn : n ≤ 12) : ∀ (c : List Int) (b : Bool), c ≠ [] → Under n c → ∃ u d, impl_PermText.items b c = u ++ [d] ∧ 48 ≤ d.toNat
 | [], _, h, _ => absurd rfl h
 | x :: q, b, _, h => by
  obtain ⟨m, hm, rfl⟩ := h x (by simp)
  rw [impl_PermText.items, Int.toNat_natCast]
  cases q with
  | nil =>
   by_cases k : m < 10
   ·exact ⟨[if b then 40 else 44], UInt8.ofNat (48 + m), by simp [impl_PermText.items, dec1 k], by rw [digit_nat k]; omega⟩
   ·exact ⟨(if b then 40 else 44) :: Lib.decDigits (m / 10), UInt8.ofNat (48 + m % 10), by simp [impl_PermText.items, dec2 k], by rw [digit_nat (by omega)]; omega⟩
  | cons y z =>
   obtain ⟨u, d, e, hd⟩ := items_last hn (y :: z) false (by simp) (fun w hw => h w (List.mem_cons_of_mem _ hw))
   exact ⟨(if b then 40 else 44) :: (Lib.decDigits m ++ u), d, by rw [e]; simp, hd⟩

theorem txt_last {n : Nat} (hn : n ≤ 12) : ∀ (cs : List (List Int)), (∀ c, c ∈ cs → Under n c) → impl_PermText.txt cs = [] ∨ ∃ u d, impl_PermText.txt cs = u ++ [d, 41] ∧ 48 ≤ d.toNat
 | [], _ => .inl rfl
 | c :: t, h => by
  rw [impl_PermText.txt]
  rcases txt_last hn t (fun x hx => h x (List.mem_cons_of_mem _ hx)) with e | ⟨u, d, e, hd⟩
  ·rw [e, List.append_nil]
   unfold impl_PermText.row
   split
   ·exact .inl rfl
   ·rename_i k
    obtain ⟨u, d, e, hd⟩ := items_last hn c true (by intro z; subst z; simp at k) (h c (by simp))
    exact .inr ⟨u, d, by rw [e]; simp, hd⟩
  ·exact .inr ⟨impl_PermText.row c ++ u, d, by rw [e]; simp, hd⟩

theorem TT_last {n : Nat} {f : Nat → Nat} (hn : n ≤ 12) (hb : Bij n f) : ∃ u d, TT n f = u ++ [d, 41] ∧ d ≠ 41 := by
 unfold TT
 split
 ·exact ⟨[], 40, rfl, by decide⟩
 ·rename_i k
  rcases txt_last hn _ (fun c hc => (cycsL_under hb c hc).1) with e | ⟨u, d, e, hd⟩
  ·exact absurd e k
  ·exact ⟨u, d, e, fun z => by subst z; exact absurd hd (by decide)⟩

theorem TT_more {n m : Nat} {f g : Nat → Nat} (hn : n ≤ 12) (hm : m ≤ 12) (hf : Bij n f) (hg : Bij m g) : TT n f ++ [41] ≠ TT m g := by
 obtain ⟨u, d, e1, h1⟩ := TT_last hn hf
 obtain ⟨v, x, e2, h2⟩ := TT_last hm hg
 rw [e1, e2]
 intro e
 have := congrArg List.reverse e
 simp at this
 exact h2 this.1.symm

theorem of_ev {s : List Int} (hs : Bytes s) {p : Int} (h0 : 0 ≤ p) (h1 : p ≤ 1000000000) {ws : List ByteArray} (hl : 1 ≤ ws.length) (hl2 : ws.length ≤ 1000) (hw : ∀ x, x ∈ ws → x.size ≤ 100) : ∃ u p', Ev (fun k => spec_l6Rd_of.f k s p ws) (u, p') ∧ u.size ≤ 100 := by
 obtain ⟨v, e, i1, _, i2⟩ := pick_ev hs h0 h1 (n := (ws.length : Int)) (by omega)
 have i3 := i2 (by omega)
 obtain ⟨m, rfl⟩ : ∃ m : Nat, v = m := ⟨v.toNat, by omega⟩
 refine ⟨_, _, Ev.bind1 e (Ev.pos (by omega) (Ev.pos (by omega) (Ev.now _))), ?_⟩
 have hm : m < ws.length := by omega
 have : rdOf ByteArray.empty ws (m : Int) = ws[m] := by unfold rdOf; simp [hm]
 rw [this]
 exact hw _ (List.getElem_mem hm)

theorem drawFrom_ev {l : List Int} (hw : ∀ x ∈ l, (Lit.int .u8 x).wf = true) : ∃ n s, s.length ≤ 700 ∧ Ev (fun k => spec_DrawPermFrom.f k l) (n, bA s) := by
 obtain ⟨s, hs, es⟩ := open_ev hw
 obtain ⟨v, e1, v0, _, v1⟩ := pick_ev hs (p := 0) (n := 12) (by omega) (by omega) (by omega)
 have v2 := v1 (by omega)
 obtain ⟨m, rfl⟩ : ∃ m : Nat, v = m := ⟨v.toNat, by omega⟩
 have wm : wrap64 (1 + (m : Int)) = ((m + 1 : Nat) : Int) := by unfold wrap64; omega
 obtain ⟨f, hb, e2⟩ := perm_ev hs (p := 0 + 1) (by omega) (by omega) (n := m + 1) (by omega)
 have hf : IsPerm (m + 1) (pm (m + 1) f) f := ⟨by omega, by omega, hb, rfl⟩
 have e3 := specText_pm hf
 have tl := TT_len (by omega) hb
 obtain ⟨x, e4, x0, _, x1⟩ := pick_ev hs (p := 0 + 1 + ((m + 1 : Nat) : Int)) (n := 10) (by omega) (by omega) (by omega)
 have go : ∀ r, Ev (fun k => if x = 0 then ((spec_l6Rd_of.f k s (0 + 1 + ((m + 1 : Nat) : Int) + 1) (([(⟨#[32]⟩ : ByteArray), (⟨#[40, 48, 41]⟩ : ByteArray), (⟨#[41]⟩ : ByteArray), (⟨#[40, 48, 44, 49, 41]⟩ : ByteArray), (⟨#[40, 41]⟩ : ByteArray)] : List ByteArray))).bind fun bt392 => (if (bA (TT (m + 1) f)).size + bt392.1.size ≤ 9223372036854775807 then (some (wrap64 (1 + (m : Int)), bA (TT (m + 1) f) ++ bt392.1)) else (none))) else (if x = 1 then ((spec_l6Rd_of.f k s (0 + 1 + ((m + 1 : Nat) : Int) + 1) (([(⟨#[]⟩ : ByteArray), (⟨#[40, 49, 44, 48, 41]⟩ : ByteArray), (⟨#[40, 48, 44, 49]⟩ : ByteArray), (⟨#[48, 44, 49]⟩ : ByteArray), (⟨#[40, 48, 44, 48, 49, 41]⟩ : ByteArray), (⟨#[40, 48, 44, 48, 41]⟩ : ByteArray), (⟨#[40, 41]⟩ : ByteArray), (⟨#[40, 48, 44, 49, 41, 40, 49, 44, 50, 41]⟩ : ByteArray)] : List ByteArray))).bind fun bt397 => (some (wrap64 (1 + (m : Int)), bt397.1))) else (if x = 2 then ((some (([0, 13, wrap64 ((wrap64 (1 + (m : Int))) + 1), wrap64 ((wrap64 (1 + (m : Int))) - 1)] : List Int) : List Int)).bind fun y399 => ((spec_l6Rd_pick.f k s (0 + 1 + ((m + 1 : Nat) : Int) + 1) 4).bind fun bt402 => (if 0 ≤ bt402.1 then (if bt402.1 < (y399.length : Int) then (some (rd y399 bt402.1, bA (TT (m + 1) f))) else (none)) else (none)))) else (some (wrap64 (1 + (m : Int)), bA (TT (m + 1) f)))))) r →
  Ev (fun k => spec_DrawPermFrom.f k l) r := by
  intro r hr
  refine Ev.bind1 es (Ev.bind1 e1 ?_)
  refine Ev.bind1 (g := fun k => spec_l91Perm.f k s (0 + 1) (wrap64 (1 + (m : Int)))) (a := (pm (m + 1) f, 0 + 1 + ((m + 1 : Nat) : Int))) (by rw [wm]; exact e2) (Ev.bind1 e3 (Ev.bind1 e4 hr))
 by_cases c0 : x = 0
 ·obtain ⟨u, p', eu, hu⟩ := of_ev hs (p := 0 + 1 + ((m + 1 : Nat) : Int) + 1) (by omega) (by omega) (ws := [(⟨#[32]⟩ : ByteArray), (⟨#[40, 48, 41]⟩ : ByteArray), (⟨#[41]⟩ : ByteArray), (⟨#[40, 48, 44, 49, 41]⟩ : ByteArray), (⟨#[40, 41]⟩ : ByteArray)]) (by decide) (by decide) (by decide)
  refine ⟨wrap64 (1 + (m : Int)), TT (m + 1) f ++ u.data.toList, ?_, go _ (Ev.pos c0 (Ev.bind1 eu (Ev.pos (by rw [bA_size]; show (TT (m + 1) f).length + u.size ≤ _; omega) ?_)))⟩
  ·rw [List.length_append]
   have : u.data.toList.length = u.size := rfl
   omega
  ·rw [← bA_append, ← bA_of u]
   exact Ev.now _
 by_cases c1 : x = 1
 ·obtain ⟨u, p', eu, hu⟩ := of_ev hs (p := 0 + 1 + ((m + 1 : Nat) : Int) + 1) (by omega) (by omega) (ws := [(⟨#[]⟩ : ByteArray), (⟨#[40, 49, 44, 48, 41]⟩ : ByteArray), (⟨#[40, 48, 44, 49]⟩ : ByteArray), (⟨#[48, 44, 49]⟩ : ByteArray), (⟨#[40, 48, 44, 48, 49, 41]⟩ : ByteArray), (⟨#[40, 48, 44, 48, 41]⟩ : ByteArray), (⟨#[40, 41]⟩ : ByteArray), (⟨#[40, 48, 44, 49, 41, 40, 49, 44, 50, 41]⟩ : ByteArray)]) (by decide) (by decide) (by decide)
  refine ⟨wrap64 (1 + (m : Int)), u.data.toList, ?_, go _ (Ev.neg c0 (Ev.pos c1 (Ev.bind1 eu ?_)))⟩
  ·have : u.data.toList.length = u.size := rfl
   omega
  ·rw [← bA_of u]
   exact Ev.now _
 by_cases c2 : x = 2
 ·obtain ⟨y, e5, y0, _, y1⟩ := pick_ev hs (p := 0 + 1 + ((m + 1 : Nat) : Int) + 1) (n := 4) (by omega) (by omega) (by omega)
  have y2 := y1 (by omega)
  exact ⟨_, TT (m + 1) f, by omega, go _ (Ev.neg c0 (Ev.neg c1 (Ev.pos c2 (Ev.some1 (Ev.bind1 e5 (Ev.pos y0 (Ev.pos (by simpa using y2) (Ev.now _))))))))⟩
 ·exact ⟨_, TT (m + 1) f, by omega, go _ (Ev.neg c0 (Ev.neg c1 (Ev.neg c2 (Ev.now _))))⟩

/-- What is read is a permutation. -/
theorem FnFrom : laws_FnFrom.Pure := by
 intro l hl1 hl2 hw
 refine Ev.rounds ?_
 unfold laws_FnFrom.f
 by_cases c : (l.length : Int) > 1048576
 ·exact Ev.pos c (Ev.now _)
 obtain ⟨n, s, hs, ed⟩ := drawFrom_ev hw
 obtain ⟨r, es, ei, ht⟩ := from_both n (s := s) (by omega)
 have lr : r.1.length ≤ 12 := by
  rcases ht with rfl | ⟨m, f, rfl, hf, _, _⟩
  ·simp
  ·rw [isPerm_len hf]; exact hf.2.1
 have same := sameInts_ev (a := r.1) (b := r.1) (by omega)
 rw [decide_eq_true rfl] at same
 refine Ev.neg c (Ev.bind1 ed (Ev.bind1 ei (Ev.bind1 es ?_)))
 refine Ev.neg (by simp) (Ev.bind1 same (Ev.pos rfl ?_))
 refine Ev.step (fun k => by rw [laws_FnFrom.j0]) ?_
 rcases ht with rfl | ⟨m, f, rfl, hf, e2, rfl⟩
 ·exact Ev.pos rfl (Ev.pos rfl (Ev.bind1 same (Ev.now _)))
 ·have hb := hf.2.2.1
  have h12 := hf.2.1
  have tl := TT_len h12 hb
  refine Ev.neg (by rw [e2]; simp) (Ev.pos (by rw [bA_size]; omega) ?_)
  obtain ⟨r', ei', ht'⟩ := implFrom_any (m : Int) (s := TT m f ++ [41]) (by rw [List.length_append]; simp; omega)
  have no : r'.2 = false := by
   rcases ht' with rfl | ⟨m', f', _, hf', _, e⟩
   ·rfl
   ·exact absurd e (TT_more h12 hf'.2.1 hb hf'.2.2.1)
  rw [show (⟨#[41]⟩ : ByteArray) = bA [41] from rfl, bA_append]
  refine Ev.bind1 ei' (Ev.bind1 (implValid_ev r.1) (Ev.pos (isPerm_valid hf) (Ev.pos (by rw [isPerm_len hf]) (Ev.bind1 (implText_pm hf) (Ev.pos rfl ?_)))))
  rw [no]
  exact Ev.now _
end Go.Proofs.YtieaplnngmgkeaaDoor.R
namespace Go.Proofs.YtieaplnngmgkeaaDoor.Pure
theorem FnFrom : Go.Proofs.YtieaplnngmgkeaaDoor.F.laws_FnFrom.Pure := Go.Proofs.YtieaplnngmgkeaaDoor.R.FnFrom
end Go.Proofs.YtieaplnngmgkeaaDoor.Pure
