/- Each point is in one cycle. -/
import Derived.Test.YtajmkjeiegdpcaaF0
import Derived.Test.YtajmkjeiegdpcaaF1
import Derived.Test.YtajmkjeiegdpcaaF10
import Derived.Test.YtajmkjeiegdpcaaF11
import Derived.Test.YtajmkjeiegdpcaaF12
import Derived.Test.YtajmkjeiegdpcaaF13
import Derived.Test.YtajmkjeiegdpcaaF2
import Derived.Test.YtajmkjeiegdpcaaF3
import Derived.Test.YtajmkjeiegdpcaaF4
import Derived.Test.YtajmkjeiegdpcaaF5
import Derived.Test.YtajmkjeiegdpcaaF6
import Derived.Test.YtajmkjeiegdpcaaF9
set_option linter.unusedVariables false
set_option linter.unusedSimpArgs false
namespace Go.Proofs.Ytajmkjeiegdpcaa.Sm
open List
/-- f permutes the numbers below n. -/
def Bij (n : Nat) (f : Nat → Nat) : Prop := (∀ i, i < n → f i < n) ∧ (∀ i j, i < n → j < n → f i = f j → i = j)

/-- the list of a permutation -/
def pm (n : Nat) (f : Nat → Nat) : List Int := (List.range n).map (fun i => (f i : Int))

theorem pm_length (n : Nat) (f : Nat → Nat) : (pm n f).length = n := by simp [pm]

theorem pm_getD (n : Nat) (f : Nat → Nat) (i : Nat) (h : i < n) : (pm n f).getD i 0 = (f i : Int) := by
 simp [pm, List.getD, h]

theorem eq_pm (n : Nat) (f : Nat → Nat) (l : List Int) (hl : l.length = n) (h : ∀ i, i < n → l.getD i 0 = (f i : Int)) : l = pm n f := by
 apply List.ext_getElem
 ·rw [hl, pm_length]
 ·intro i h1 h2
  have := h i (by omega)
  have e := pm_getD n f i (by omega)
  simp only [List.getD_eq_getElem?_getD, List.getElem?_eq_getElem h1, Option.getD_some] at this
  simp only [List.getD_eq_getElem?_getD, List.getElem?_eq_getElem h2, Option.getD_some] at e
  rw [this, e]

theorem id_bij (n : Nat) : Bij n (fun i => i) := ⟨fun _ h => h, fun _ _ _ _ e => e⟩

/-- f done m times -/
def it (f : Nat → Nat) : Nat → Nat → Nat
 | 0, x => x
 | m + 1, x => f (it f m x)

theorem it_add (f : Nat → Nat) (a b x : Nat) : it f (a + b) x = it f a (it f b x) := by
 induction a with
 | zero => simp [it]
 | succ a ih => rw [Nat.succ_add]; simp [it, ih]

theorem it_lt {n : Nat} {f : Nat → Nat} (h : Bij n f) (m : Nat) {x : Nat} (hx : x < n) : it f m x < n := by
 induction m with
 | zero => exact hx
 | succ m ih => exact h.1 _ ih

theorem it_inj {n : Nat} {f : Nat → Nat} (h : Bij n f) (m : Nat) {x y : Nat} (hx : x < n) (hy : y < n) (e : it f m x = it f m y) : x = y := by
 induction m with
 | zero => exact e
 | succ m ih => exact ih (h.2 _ _ (it_lt h m hx) (it_lt h m hy) e)

/-- pigeonhole: more than n numbers below n: two are equal -/
theorem pigeon (n : Nat) (g : Nat → Nat) (h : ∀ i, i ≤ n → g i < n) : ∃ i j, i < j ∧ j ≤ n ∧ g i = g j := by
 induction n generalizing g with
 | zero => exact absurd (h 0 (by omega)) (by omega)
 | succ n ih =>
  by_cases c : ∃ i, i < n + 1 ∧ g i = g (n + 1)
  ·obtain ⟨i, hi, e⟩ := c; exact ⟨i, n + 1, hi, by omega, e⟩
  ·have c' : ∀ i, i < n + 1 → g i ≠ g (n + 1) := fun i hi e => c ⟨i, hi, e⟩
   obtain ⟨i, j, hij, hj, e⟩ := ih (fun i => if g i = n then g (n + 1) else g i) (fun i hi => by
    have a := h i (by omega)
    have b := h (n + 1) (by omega)
    have d := c' i (by omega)
    show (if g i = n then g (n + 1) else g i) < n
    split <;> omega)
   refine ⟨i, j, hij, by omega, ?_⟩
   have di := c' i (by omega)
   have dj := c' j (by omega)
   by_cases e1 : g i = n <;> by_cases e2 : g j = n
   ·omega
   ·rw [if_pos e1, if_neg e2] at e; omega
   ·rw [if_neg e1, if_pos e2] at e; omega
   ·rw [if_neg e1, if_neg e2] at e; exact e

theorem it_back {n : Nat} {f : Nat → Nat} (h : Bij n f) {x : Nat} (hx : x < n) : ∃ m, 0 < m ∧ m ≤ n ∧ it f m x = x := by
 obtain ⟨i, j, hij, hj, e⟩ := pigeon n (fun m => it f m x) (fun m _ => it_lt h m hx)
 refine ⟨j - i, by omega, by omega, ?_⟩
 have : it f (i + (j - i)) x = it f i (it f (j - i) x) := it_add ..
 rw [show i + (j - i) = j by omega] at this
 exact (it_inj h i hx (it_lt h _ hx) (e.trans this)).symm

/-- the least positive m with p m, below a bound; else 0 -/
def least (p : Nat → Bool) (n : Nat) : Nat := ((List.range n).find? (fun m => p (m + 1))).elim 0 (· + 1)

theorem find_range_some {n : Nat} {p : Nat → Bool} {m : Nat} (h : (List.range n).find? p = some m) : m < n ∧ p m = true ∧ ∀ k, k < m → p k = false := by
 induction n generalizing m with
 | zero => simp at h
 | succ n ih =>
  rw [List.range_succ, List.find?_append] at h
  cases e : (List.range n).find? p with
  | some z =>
   rw [e] at h; simp at h; subst h
   have := ih e
   exact ⟨by omega, this.2⟩
  | none =>
   rw [e] at h
   simp at h
   obtain ⟨h1, rfl⟩ := h
   refine ⟨by omega, h1, fun k hk => ?_⟩
   rw [List.find?_eq_none] at e
   simpa using e k (by simpa using hk)

theorem least_spec {p : Nat → Bool} {n m : Nat} (hm : 0 < m) (hn : m ≤ n) (h : p m = true) :
 0 < least p n ∧ least p n ≤ m ∧ p (least p n) = true ∧ ∀ k, 0 < k → k < least p n → p k = false := by
 unfold least
 cases e : (List.range n).find? (fun m => p (m + 1)) with
 | none =>
  rw [List.find?_eq_none] at e
  have := e (m - 1) (by simp; omega)
  rw [show m - 1 + 1 = m by omega] at this
  exact absurd h this
 | some z =>
  obtain ⟨h1, h2, h3⟩ := find_range_some e
  simp only [Option.elim_some]
  refine ⟨by omega, ?_, h2, fun k hk hk2 => ?_⟩
  ·apply Nat.le_of_not_lt
   intro hlt
   have := h3 (m - 1) (by omega)
   rw [show m - 1 + 1 = m by omega, h] at this
   cases this
  ·have := h3 (k - 1) (by omega)
   rwa [show k - 1 + 1 = k by omega] at this

/-- how long the cycle of x is -/
def per (n : Nat) (f : Nat → Nat) (x : Nat) : Nat := least (fun m => it f m x == x) n

theorem per_spec {n : Nat} {f : Nat → Nat} (h : Bij n f) {x : Nat} (hx : x < n) :
 0 < per n f x ∧ per n f x ≤ n ∧ it f (per n f x) x = x ∧ ∀ k, 0 < k → k < per n f x → it f k x ≠ x := by
 obtain ⟨m, h1, h2, h3⟩ := it_back h hx
 obtain ⟨a, b, c, d⟩ := least_spec (p := fun m => it f m x == x) (n := n) h1 h2 (by simpa using h3)
 refine ⟨a, by unfold per; omega, ?_, fun k hk hk2 => by simpa using d k hk hk2⟩
 have := eq_of_beq c
 exact this

theorem it_mul_per {n : Nat} {f : Nat → Nat} (h : Bij n f) {x : Nat} (hx : x < n) (q : Nat) : it f (per n f x * q) x = x := by
 induction q with
 | zero => rfl
 | succ q ih => rw [Nat.mul_succ, it_add, (per_spec h hx).2.2.1, ih]

theorem it_mod_per {n : Nat} {f : Nat → Nat} (h : Bij n f) {x : Nat} (hx : x < n) (m : Nat) : it f m x = it f (m % per n f x) x := by
 conv => lhs; rw [← Nat.mod_add_div m (per n f x)]
 rw [it_add, it_mul_per h hx]

/-- is i the least of its cycle? -/
def isMin (n : Nat) (f : Nat → Nat) (i : Nat) : Bool := (List.range n).all fun k => decide (i ≤ it f k i)

theorem isMin_iff {n : Nat} {f : Nat → Nat} (h : Bij n f) {i : Nat} (hi : i < n) : isMin n f i = true ↔ ∀ k, i ≤ it f k i := by
 unfold isMin
 rw [List.all_eq_true]
 constructor
 ·intro a k
  rw [it_mod_per h hi]
  have p := per_spec h hi
  have := a (k % per n f i) (by rw [mem_range]; have := Nat.mod_lt k p.1; omega)
  simpa using this
 ·intro a k _
  simpa using a k

/-- the points that f leads to from x -/
def orb (f : Nat → Nat) (x y : Nat) : Prop := ∃ k, it f k x = y

theorem orb_refl (f : Nat → Nat) (x : Nat) : orb f x x := ⟨0, rfl⟩

theorem orb_trans {f : Nat → Nat} {x y z : Nat} : orb f x y → orb f y z → orb f x z := by
 rintro ⟨a, rfl⟩ ⟨b, rfl⟩
 exact ⟨b + a, it_add f b a x⟩

theorem orb_lt {n : Nat} {f : Nat → Nat} (h : Bij n f) {x y : Nat} (hx : x < n) : orb f x y → y < n := by
 rintro ⟨k, rfl⟩; exact it_lt h k hx

theorem orb_symm {n : Nat} {f : Nat → Nat} (h : Bij n f) {x y : Nat} (hx : x < n) : orb f x y → orb f y x := by
 rintro ⟨k, rfl⟩
 have p := per_spec h hx
 refine ⟨per n f x - k % per n f x, ?_⟩
 rw [it_mod_per h hx k, ← it_add]
 have := Nat.mod_lt k p.1
 rw [show per n f x - k % per n f x + k % per n f x = per n f x by omega]
 exact p.2.2.1

/-- the cycle of x, from x on -/
def cyc (n : Nat) (f : Nat → Nat) (x : Nat) : List Nat := (List.range (per n f x)).map (fun k => it f k x)

theorem cyc_length (n : Nat) (f : Nat → Nat) (x : Nat) : (cyc n f x).length = per n f x := by simp [cyc]

theorem mem_cyc {n : Nat} {f : Nat → Nat} (h : Bij n f) {x y : Nat} (hx : x < n) : y ∈ cyc n f x ↔ orb f x y := by
 unfold cyc orb
 simp only [mem_map, mem_range]
 constructor
 ·rintro ⟨k, _, e⟩; exact ⟨k, e⟩
 ·rintro ⟨k, e⟩
  exact ⟨k % per n f x, Nat.mod_lt _ (per_spec h hx).1, by rw [← it_mod_per h hx]; exact e⟩

theorem it_inj_per {n : Nat} {f : Nat → Nat} (h : Bij n f) {x : Nat} (hx : x < n) {a b : Nat} (ha : a < per n f x) (hb : b < per n f x) (e : it f a x = it f b x) : a = b := by
 have key : ∀ a b, a < b → b < per n f x → it f a x = it f b x → False := by
  intro a b hab hb e
  have : it f (a + (b - a)) x = it f a (it f (b - a) x) := it_add ..
  rw [show a + (b - a) = b by omega, ← e] at this
  exact (per_spec h hx).2.2.2 (b - a) (by omega) (by omega) (it_inj h a hx (it_lt h _ hx) this).symm
 rcases Nat.lt_trichotomy a b with c | c | c
 ·exact (key a b c hb e).elim
 ·exact c
 ·exact (key b a c ha e.symm).elim

theorem nodup_map_range {m : Nat} {g : Nat → Nat} (h : ∀ a b, a < m → b < m → g a = g b → a = b) : ((List.range m).map g).Nodup := by
 unfold Nodup
 rw [pairwise_map]
 have := nodup_range (n := m)
 unfold Nodup at this
 rw [pairwise_iff_getElem] at this ⊢
 intro i j hi hj hij e
 have hi' : i < m := by simpa using hi
 have hj' : j < m := by simpa using hj
 simp only [getElem_range] at e
 have := h i j hi' hj' e
 omega

theorem cyc_nodup {n : Nat} {f : Nat → Nat} (h : Bij n f) {x : Nat} (hx : x < n) : (cyc n f x).Nodup :=
 nodup_map_range fun _ _ ha hb e => it_inj_per h hx ha hb e

theorem isMin_iff' {n : Nat} {f : Nat → Nat} (h : Bij n f) {i : Nat} (hi : i < n) : isMin n f i = true ↔ ∀ j, j < i → ¬ orb f j i := by
 rw [isMin_iff h hi]
 constructor
 ·rintro a j hj ⟨k, e⟩
  obtain ⟨k', e'⟩ := orb_symm h (by omega : j < n) ⟨k, e⟩
  have := a k'
  omega
 ·intro a k
  apply Nat.le_of_not_lt
  intro hlt
  exact a _ hlt (orb_symm h hi ⟨k, rfl⟩)

/-- the least points of the cycles -/
def mins (n : Nat) (f : Nat → Nat) : List Nat := (List.range n).filter (isMin n f)

theorem mem_mins {n : Nat} {f : Nat → Nat} {i : Nat} : i ∈ mins n f ↔ i < n ∧ isMin n f i = true := by
 unfold mins; rw [mem_filter, mem_range]

/-- the least point of the cycle of x -/
theorem min_of {n : Nat} {f : Nat → Nat} (h : Bij n f) {x : Nat} (hx : x < n) : ∃ m, m < n ∧ isMin n f m = true ∧ orb f m x ∧ m ≤ x := by
 induction x using Nat.strongRecOn with
 | _ x ih =>
  by_cases c : isMin n f x = true
  ·exact ⟨x, hx, c, orb_refl f x, Nat.le_refl _⟩
  ·rw [isMin_iff' h hx] at c
   have : ∃ j, j < x ∧ orb f j x := by
    apply Classical.byContradiction
    intro d
    exact c fun j hj e => d ⟨j, hj, e⟩
   obtain ⟨j, hj, o⟩ := this
   obtain ⟨m, h1, h2, h3, h4⟩ := ih j hj (by omega)
   exact ⟨m, h1, h2, orb_trans h3 o, by omega⟩

theorem mins_eq {n : Nat} {f : Nat → Nat} (h : Bij n f) {a b x : Nat} (ha : a < n) (hb : b < n) (ma : isMin n f a = true) (mb : isMin n f b = true) (oa : orb f a x) (ob : orb f b x) : a = b := by
 have o1 : orb f a b := orb_trans oa (orb_symm h hb ob)
 have o2 : orb f b a := orb_symm h ha o1
 rcases Nat.lt_trichotomy a b with c | c | c
 ·exact ((isMin_iff' h hb).1 mb a c o1).elim
 ·exact c
 ·exact ((isMin_iff' h ha).1 ma b c o2).elim

/-- all cycles -/
def cycs (n : Nat) (f : Nat → Nat) : List (List Nat) := (mins n f).map (cyc n f)

theorem flat_nodup {n : Nat} {f : Nat → Nat} (h : Bij n f) (l : List Nat) (nd : l.Nodup) (hl : ∀ a, a ∈ l → a < n ∧ isMin n f a = true) : ((l.map (cyc n f)).flatten).Nodup := by
 induction l with
 | nil => simp
 | cons a l ih =>
  rw [nodup_cons] at nd
  obtain ⟨h1, h2⟩ := hl a (by simp)
  rw [List.map_cons, List.flatten_cons, nodup_append]
  refine ⟨cyc_nodup h h1, ih nd.2 (fun b hb => hl b (by simp [hb])), ?_⟩
  intro x hx y hy e
  subst e
  rw [mem_flatten] at hy
  obtain ⟨c, hc, hxc⟩ := hy
  rw [mem_map] at hc
  obtain ⟨b, hb, rfl⟩ := hc
  obtain ⟨h3, h4⟩ := hl b (by simp [hb])
  have := mins_eq h h1 h3 h2 h4 ((mem_cyc h h1).1 hx) ((mem_cyc h h3).1 hxc)
  subst this
  exact nd.1 hb

theorem mins_nodup (n : Nat) (f : Nat → Nat) : (mins n f).Nodup := (nodup_range (n := n)).filter _

theorem flat_perm {n : Nat} {f : Nat → Nat} (h : Bij n f) : ((cycs n f).flatten).Perm (List.range n) := by
 rw [perm_iff_count]
 intro a
 have nd : ((cycs n f).flatten).Nodup := flat_nodup h (mins n f) (mins_nodup n f) (fun a ha => mem_mins.1 ha)
 rw [nd.count, (nodup_range (n := n)).count]
 have : a ∈ (cycs n f).flatten ↔ a ∈ List.range n := by
  rw [mem_flatten, mem_range]
  constructor
  ·rintro ⟨c, hc, hac⟩
   unfold cycs at hc
   rw [mem_map] at hc
   obtain ⟨b, hb, rfl⟩ := hc
   have := mem_mins.1 hb
   exact orb_lt h this.1 ((mem_cyc h this.1).1 hac)
  ·intro ha
   obtain ⟨m, h1, h2, h3, _⟩ := min_of h ha
   exact ⟨cyc n f m, by unfold cycs; rw [mem_map]; exact ⟨m, mem_mins.2 ⟨h1, h2⟩, rfl⟩, (mem_cyc h h1).2 h3⟩
 by_cases c : a ∈ List.range n
 ·rw [if_pos c, if_pos (this.2 c)]
 ·rw [if_neg c, if_neg (fun d => c (this.1 d))]

theorem flat_length {n : Nat} {f : Nat → Nat} (h : Bij n f) : ((cycs n f).flatten).length = n := by
 rw [(flat_perm h).length_eq, length_range]
end Go.Proofs.Ytajmkjeiegdpcaa.Sm
namespace Go.Proofs.Ytajmkjeiegdpcaa.R
open Go.RowKit Go.Proofs.YtajmkjeiegdpcaaW.PrintWords Go.Proofs.YtajmkjeiegdpcaaW.PrintLast Go.Proofs.YtajmkjeiegdpcaaW.PrintMore Go.Proofs.Ytajmkjeiegdpcaa.F Go.Proofs.Ytajmkjeiegdpcaa.Sm
theorem Ev.pos {α : Type} {c : Prop} [Decidable c] {A B : Nat → Option α} {r : α} (h : c) (k : Ev A r) : Ev (fun n => if c then A n else B n) r := by
 simp only [if_pos h]; exact k

theorem Ev.neg {α : Type} {c : Prop} [Decidable c] {A B : Nat → Option α} {r : α} (h : ¬ c) (k : Ev B r) : Ev (fun n => if c then A n else B n) r := by
 simp only [if_neg h]; exact k

theorem Ev.bind1 {α β : Type} {g : Nat → Option α} {f : Nat → α → Option β} {a : α} {r : β} (h : Ev g a) (k : Ev (fun n => f n a) r) : Ev (fun n => (g n).bind (f n)) r := Ev.bind h k

theorem Ev.some1 {α β : Type} {f : Nat → α → Option β} {a : α} {r : β} (k : Ev (fun n => f n a) r) : Ev (fun n => (some a).bind (f n)) r := k

theorem wrap_nat {i : Nat} (h : i < 9223372036854775807) : wrap64 ((i : Int) + 1) = ((i + 1 : Nat) : Int) := by unfold wrap64; omega

theorem wrap_in {n : Int} (h1 : -9223372036854775808 ≤ n) (h2 : n ≤ 9223372036854775807) : wrap64 n = n := by unfold wrap64; omega

theorem rd_get {l : List Int} {i : Nat} (h : i < l.length) : rd l (i : Int) = l[i] := by
 unfold rd; simp [h]

theorem rd_pm {n : Nat} {f : Nat → Nat} {i : Nat} (h : i < n) : rd (pm n f) (i : Int) = (f i : Int) := by
 unfold rd; exact pm_getD n f i h

/-- a list that is a permutation -/
def IsPerm (n : Nat) (l : List Int) (f : Nat → Nat) : Prop := 1 ≤ n ∧ n ≤ 12 ∧ Bij n f ∧ l = pm n f

theorem valid_iff (l : List Int) : impl_PermValid.validB l = true ↔ ∃ f, IsPerm l.length l f := by
 unfold impl_PermValid.validB
 simp only [Bool.and_eq_true, decide_eq_true_eq, List.all_eq_true, List.mem_range]
 constructor
 ·rintro ⟨⟨h1, h2⟩, h3⟩
  have h3' : ∀ i, i < l.length → 0 ≤ rd l i ∧ rd l i < l.length ∧ ∀ j, j < i → rd l j ≠ rd l i := by
   intro i hi
   have := h3 i hi
   unfold impl_PermValid.okAt at this
   simp only [Bool.and_eq_true, decide_eq_true_eq, Bool.not_eq_true', List.contains_eq_mem, decide_eq_false_iff_not] at this
   refine ⟨this.1.1, this.1.2, fun j hj e => this.2 ?_⟩
   rw [← e, rd_get (show j < l.length by omega)]
   rw [List.mem_iff_getElem]
   exact ⟨j, by simp; omega, by simp⟩
  refine ⟨fun i => (rd l i).toNat, h1, h2, ⟨fun i hi => by have := h3' i hi; show (rd l i).toNat < _; omega, fun i j hi hj e => ?_⟩, ?_⟩
  ·have a := h3' i hi
   have b := h3' j hj
   have e' : (rd l i).toNat = (rd l j).toNat := e
   rcases Nat.lt_trichotomy i j with c | c | c
   ·exact (b.2.2 i c (by omega)).elim
   ·exact c
   ·exact (a.2.2 j c (by omega)).elim
  ·refine eq_pm _ _ _ rfl fun i hi => ?_
   have := h3' i hi
   show l.getD i 0 = (((rd l i).toNat : Nat) : Int)
   have e : l.getD i 0 = rd l i := rfl
   omega
 ·rintro ⟨f, h1, h2, hf, e⟩
  refine ⟨⟨h1, h2⟩, fun i hi => ?_⟩
  have r : ∀ j, j < l.length → rd l j = (f j : Int) := fun j hj => by
   have := rd_pm (n := l.length) (f := f) hj
   rwa [← e] at this
  unfold impl_PermValid.okAt
  simp only [Bool.and_eq_true, decide_eq_true_eq, Bool.not_eq_true', List.contains_eq_mem, decide_eq_false_iff_not]
  refine ⟨⟨by rw [r i hi]; omega, by rw [r i hi]; have := hf.1 i hi; omega⟩, fun hm => ?_⟩
  rw [List.mem_iff_getElem] at hm
  obtain ⟨j, hj, ej⟩ := hm
  have hj' : j < i := by simp at hj; omega
  have : l[j]'(by omega) = rd l i := by simpa using ej
  rw [← rd_get (show j < l.length by omega), r i hi, r j (by omega)] at this
  have := hf.2 j i (by omega) hi (by omega)
  omega

theorem implValid_ev (l : List Int) : Ev (fun _ => impl_PermValid.f l) (impl_PermValid.validB l) := Ev.now _

/-- the reference's look: up to i all is well -/
theorem specValid_ev (l : List Int) (hl : l.length ≤ 4294967296) : Ev (fun k => spec_PermValid.f k l) (impl_PermValid.validB l) := by
 have e0 : ∀ (a b c : Int), spec_l6In.f a b c = some (decide (b ≤ a) && decide (a ≤ c)) := by
  intro a b c
  unfold spec_l6In.f
  by_cases h : b ≤ a
  ·rw [if_pos h]; simp [h]
  ·rw [if_neg h]; simp [h]
 -- the inner loop
 have inner : ∀ d i j, i < l.length → j + d = i → (∀ m, m < j → rd l m ≠ rd l i) → ∀ r, ((∀ m, m < i → rd l m ≠ rd l i) → Ev (fun k => spec_PermValid.l0 k l ((i + 1 : Nat) : Int)) r) → ((∃ m, m < i ∧ rd l m = rd l i) → r = false) → Ev (fun k => spec_PermValid.l1 k l (i : Int) (j : Int)) r := by
  intro d
  induction d with
  | zero =>
   intro i j hi hj hm r h1 h2
   refine Ev.step (f := fun k => spec_PermValid.l0 k l ((i + 1 : Nat) : Int)) (fun k => by rw [spec_PermValid.l1, if_neg (by omega), wrap_nat (by omega)]) ?_
   exact h1 (fun m hmi => hm m (by omega))
  | succ d ih =>
   intro i j hi hj hm r h1 h2
   by_cases c : rd l (j : Int) = rd l (i : Int)
   ·have := h2 ⟨j, by omega, c⟩
    subst this
    refine Ev.step (f := fun k => some false) (fun k => by
     rw [spec_PermValid.l1, if_pos (by omega), if_pos (by omega), if_pos (by omega), if_pos (by omega), if_pos (by omega), if_pos c]) (Ev.now _)
   ·refine Ev.step (f := fun k => spec_PermValid.l1 k l (i : Int) ((j + 1 : Nat) : Int)) (fun k => by
     rw [spec_PermValid.l1, if_pos (by omega), if_pos (by omega), if_pos (by omega), if_pos (by omega), if_pos (by omega), if_neg c, wrap_nat (by omega)]) ?_
    refine ih i (j + 1) hi (by omega) (fun m hm' => ?_) r h1 h2
    by_cases e : m = j
    ·subst e; exact c
    ·exact hm m (by omega)
 have outer : ∀ d i, i + d = l.length → (∀ m, m < i → impl_PermValid.okAt l m = true) → Ev (fun k => spec_PermValid.l0 k l (i : Int)) (impl_PermValid.validB l) := by
  intro d
  induction d with
  | zero =>
   intro i hi hm
   have e : impl_PermValid.validB l = (decide ((1 : Int) ≤ (l.length : Int)) && decide ((l.length : Int) ≤ 12)) := by
    unfold impl_PermValid.validB
    have : (List.range l.length).all (impl_PermValid.okAt l) = true := by
     rw [List.all_eq_true]; intro m hm'; exact hm m (by have := List.mem_range.1 hm'; omega)
    rw [this]
    rw [Bool.and_true]
    congr 1
    ·simp; omega
    ·simp; omega
   refine Ev.step (f := fun _ => some (impl_PermValid.validB l)) (fun k => by rw [spec_PermValid.l0, if_neg (by omega), e0, e]; rfl) (Ev.now _)
  | succ d ih =>
   intro i hi hm
   have hil : i < l.length := by omega
   have fail : impl_PermValid.okAt l i = false → impl_PermValid.validB l = false := impl_PermValid.valid_fail l i hil
   have ew : wrap64 ((l.length : Int) - 1) = (l.length : Int) - 1 := wrap_in (by omega) (by omega)
   by_cases c : 0 ≤ rd l (i : Int) ∧ rd l (i : Int) ≤ (l.length : Int) - 1
   ·refine Ev.step (f := fun k => spec_PermValid.l1 k l (i : Int) ((0 : Nat) : Int)) (fun k => by
     rw [spec_PermValid.l0, if_pos (by omega), if_pos (by omega), e0, ew]
     simp only [Option.bind_some]
     rw [if_pos (by simp [c.1, c.2])]; rfl) ?_
    refine inner i i 0 hil (by omega) (fun m hm' => absurd hm' (by omega)) _ (fun hd => ?_) (fun hd => ?_)
    ·refine ih (i + 1) (by omega) (fun m hm' => ?_)
     by_cases e : m = i
     ·subst e
      unfold impl_PermValid.okAt
      simp only [Bool.and_eq_true, decide_eq_true_eq, Bool.not_eq_true', List.contains_eq_mem, decide_eq_false_iff_not]
      refine ⟨⟨c.1, by omega⟩, fun hx => ?_⟩
      rw [List.mem_iff_getElem] at hx
      obtain ⟨j, hj, ej⟩ := hx
      have hj' : j < m := by simp at hj; omega
      have : l[j]'(by omega) = rd l m := by simpa using ej
      rw [← rd_get (show j < l.length by omega)] at this
      exact hd j hj' this
     ·exact hm m (by omega)
    ·obtain ⟨m, hmi, em⟩ := hd
     apply fail
     unfold impl_PermValid.okAt
     have : (l.take i).contains (rd l i) = true := by
      rw [List.contains_eq_mem, decide_eq_true_eq, ← em, rd_get (show m < l.length by omega), List.mem_iff_getElem]
      exact ⟨m, by simp; omega, by simp⟩
     simp only [this, Bool.not_true, Bool.and_false]
   ·have : impl_PermValid.validB l = false := by
     apply fail
     unfold impl_PermValid.okAt
     by_cases c1 : 0 ≤ rd l (i : Int)
     ·have : ¬ rd l (i : Int) < l.length := by omega
      simp [this]
     ·simp [c1]
    rw [this]
    refine Ev.step (f := fun k => some false) (fun k => by
     rw [spec_PermValid.l0, if_pos (by omega), if_pos (by omega), e0, ew]
     simp only [Option.bind_some]
     rw [if_neg]
     simp only [Bool.and_eq_true, decide_eq_true_eq]
     exact c) (Ev.now _)
 unfold spec_PermValid.f
 exact outer l.length 0 (by omega) (fun m hm => absurd hm (by omega))

theorem rd_set {s : List Int} {a b : Nat} {v : Int} (h : a < s.length) : rd (s.set a v) (b : Int) = if a = b then v else rd s (b : Int) := by
 unfold rd
 simp only [Int.toNat_natCast, List.getD_eq_getElem?_getD, List.getElem?_set]
 by_cases e : a = b
 ·subst e; simp [h]
 ·simp [e]

theorem eq_pm' {n : Nat} {f : Nat → Nat} {l : List Int} (hl : l.length = n) (h : ∀ i, i < n → rd l (i : Int) = (f i : Int)) : l = pm n f :=
 eq_pm n f l hl fun i hi => by have := h i hi; unfold rd at this; simpa using this

theorem sameInts_loop (a b : List Int) (hl : a.length = b.length) (hb : a.length ≤ 4294967296) : ∀ d i, i + d = a.length → Ev (fun k => laws_sameInts.l0 k a b (i : Int)) (decide (a.drop i = b.drop i)) := by
 intro d
 induction d with
 | zero =>
  intro i hi
  refine Ev.step (f := fun _ => some true) (fun k => by rw [laws_sameInts.l0, if_neg (by omega)]) ?_
  rw [List.drop_of_length_le (by omega), List.drop_of_length_le (by omega)]
  exact Ev.now _
 | succ d ih =>
  intro i hi
  have ha : i < a.length := by omega
  have hb' : i < b.length := by omega
  rw [List.drop_eq_getElem_cons ha, List.drop_eq_getElem_cons hb']
  by_cases c : a[i] = b[i]
  ·refine Ev.step (f := fun k => laws_sameInts.l0 k a b ((i + 1 : Nat) : Int)) (fun k => by
    rw [laws_sameInts.l0, if_pos (by omega), if_pos (by omega), if_pos (by omega), rd_get ha, rd_get hb', if_pos c, wrap_nat (by omega)]) ?_
   have e : decide (a[i] :: a.drop (i + 1) = b[i] :: b.drop (i + 1)) = decide (a.drop (i + 1) = b.drop (i + 1)) := by
    simp only [List.cons.injEq, c, true_and]
   rw [e]
   exact ih (i + 1) (by omega)
  ·refine Ev.step (f := fun k => some false) (fun k => by
    rw [laws_sameInts.l0, if_pos (by omega), if_pos (by omega), if_pos (by omega), rd_get ha, rd_get hb', if_neg c]) ?_
   have : decide (a[i] :: a.drop (i + 1) = b[i] :: b.drop (i + 1)) = false := by
    simp only [List.cons.injEq, c, false_and, decide_false]
   rw [this]
   exact Ev.now _

theorem sameInts_ev {a b : List Int} (hb : a.length ≤ 4294967296) : Ev (fun k => laws_sameInts.f k a b) (decide (a = b)) := by
 unfold laws_sameInts.f
 by_cases c : a.length = b.length
 ·refine Ev.pos (by omega) ?_
  exact sameInts_loop a b c hb a.length 0 (by omega)
 ·have : decide (a = b) = false := by simp; intro e; exact c (by rw [e])
  rw [this]
  exact Ev.neg (by omega) (Ev.now _)

def ints (l : List Nat) : List Int := l.map fun (x : Nat) => (x : Int)

def cycsTo (n : Nat) (f : Nat → Nat) (i : Nat) : List (List Int) := ((List.range i).filter (isMin n f)).map fun m => ints (cyc n f m)

/-- all cycles, as lists of numbers -/
def cycsL (n : Nat) (f : Nat → Nat) : List (List Int) := cycsTo n f n

theorem cycsTo_len (n : Nat) (f : Nat → Nat) (i : Nat) : (cycsTo n f i).length ≤ i := by
 unfold cycsTo
 rw [List.length_map]
 have := List.length_filter_le (isMin n f) (List.range i)
 simpa using this

def seenTo (n : Nat) (f : Nat → Nat) (i : Nat) (s : List Bool) : Prop := s.length = n ∧ ∀ x, x < n → (rdOf false s (x : Int) = true ↔ ∃ j, j < i ∧ orb f j x)

def seenIn (n : Nat) (f : Nat → Nat) (i k : Nat) (s : List Bool) : Prop := s.length = n ∧ ∀ x, x < n → (rdOf false s (x : Int) = true ↔ (∃ j, j < i ∧ orb f j x) ∨ ∃ m, m < k ∧ it f m i = x)

theorem rdOf_set {s : List Bool} {a b : Nat} {v : Bool} (h : a < s.length) : rdOf false (s.set a v) (b : Int) = if a = b then v else rdOf false s (b : Int) := by
 unfold rdOf
 simp only [Int.toNat_natCast, List.getD_eq_getElem?_getD, List.getElem?_set]
 by_cases e : a = b
 ·subst e; simp [h]
 ·simp [e]

theorem seen_start (n : Nat) (f : Nat → Nat) : seenTo n f 0 (List.replicate n false) := by
 refine ⟨by simp, fun x hx => ?_⟩
 unfold rdOf
 constructor
 ·intro h; simp [List.getD_eq_getElem?_getD, hx] at h
 ·rintro ⟨j, hj, _⟩; omega

theorem seen_in {n : Nat} {f : Nat → Nat} {i : Nat} {s : List Bool} (h : seenTo n f i s) : seenIn n f i 0 s :=
 ⟨h.1, fun x hx => by rw [h.2 x hx]; exact ⟨.inl, fun e => e.elim id (fun ⟨m, hm, _⟩ => absurd hm (by omega))⟩⟩

theorem seen_step {n : Nat} {f : Nat → Nat} (hf : Bij n f) {i k : Nat} (hi : i < n) {s : List Bool} (h : seenIn n f i k s) : seenIn n f i (k + 1) (s.set (it f k i) true) := by
 have hk := it_lt hf k hi
 refine ⟨by simp [h.1], fun x hx => ?_⟩
 rw [rdOf_set (by rw [h.1]; exact hk)]
 by_cases e : it f k i = x
 ·rw [if_pos e]
  exact ⟨fun _ => .inr ⟨k, by omega, e⟩, fun _ => rfl⟩
 ·rw [if_neg e, h.2 x hx]
  constructor
  ·rintro (a | ⟨m, hm, b⟩)
   ·exact .inl a
   ·exact .inr ⟨m, by omega, b⟩
  ·rintro (a | ⟨m, hm, b⟩)
   ·exact .inl a
   ·refine .inr ⟨m, ?_, b⟩
    apply Nat.lt_of_le_of_ne (by omega)
    intro d; subst d; exact e b

theorem seen_end {n : Nat} {f : Nat → Nat} (hf : Bij n f) {i : Nat} (hi : i < n) {s : List Bool} (h : seenIn n f i (per n f i) s) : seenTo n f (i + 1) s := by
 refine ⟨h.1, fun x hx => ?_⟩
 rw [h.2 x hx]
 constructor
 ·rintro (⟨j, hj, o⟩ | ⟨m, hm, e⟩)
  ·exact ⟨j, by omega, o⟩
  ·exact ⟨i, by omega, m, e⟩
 ·rintro ⟨j, hj, o⟩
  by_cases e : j = i
  ·subst e
   obtain ⟨m, em⟩ := o
   exact .inr ⟨m % per n f j, Nat.mod_lt _ (per_spec hf hi).1, by rw [← it_mod_per hf hi]; exact em⟩
  ·exact .inl ⟨j, by omega, o⟩

theorem seen_skip {n : Nat} {f : Nat → Nat} (hf : Bij n f) {i : Nat} (hi : i < n) {s : List Bool} (h : seenTo n f i s) (hs : rdOf false s (i : Int) = true) : seenTo n f (i + 1) s := by
 refine ⟨h.1, fun x hx => ?_⟩
 rw [h.2 x hx]
 obtain ⟨j, hj, o⟩ := (h.2 i hi).1 hs
 constructor
 ·rintro ⟨j, hj, o⟩; exact ⟨j, by omega, o⟩
 ·rintro ⟨j', hj', o'⟩
  by_cases e : j' = i
  ·subst e; exact ⟨j, hj, orb_trans o o'⟩
  ·exact ⟨j', by omega, o'⟩

theorem seen_min {n : Nat} {f : Nat → Nat} (hf : Bij n f) {i : Nat} (hi : i < n) {s : List Bool} (h : seenTo n f i s) : rdOf false s (i : Int) = !isMin n f i := by
 rw [Bool.eq_iff_iff, h.2 i hi, Bool.not_eq_true']
 constructor
 ·rintro ⟨j, hj, o⟩
  apply Bool.eq_false_iff.2
  intro m
  exact (isMin_iff' hf hi).1 m j hj o
 ·intro m
  apply Classical.byContradiction
  intro c
  have : isMin n f i = true := (isMin_iff' hf hi).2 fun j hj o => c ⟨j, hj, o⟩
  rw [m] at this; cases this

theorem seen_new {n : Nat} {f : Nat → Nat} (hf : Bij n f) {i k : Nat} (hi : i < n) {s : List Bool} (h : seenIn n f i k s) (hm : isMin n f i = true) (hk : k < per n f i) : rdOf false s (it f k i : Int) = false := by
 apply Bool.eq_false_iff.2
 intro c
 rcases (h.2 _ (it_lt hf k hi)).1 c with ⟨j, hj, o⟩ | ⟨m, hmk, e⟩
 ·exact (isMin_iff' hf hi).1 hm j hj (orb_trans o (orb_symm hf hi ⟨k, rfl⟩))
 ·have := it_inj_per hf hi (by omega) hk e
  omega

theorem seen_old {n : Nat} {f : Nat → Nat} (hf : Bij n f) {i : Nat} (hi : i < n) {s : List Bool} (h : seenIn n f i (per n f i) s) : rdOf false s (it f (per n f i) i : Int) = true := by
 have p := per_spec hf hi
 rw [p.2.2.1]
 exact (h.2 i hi).2 (.inr ⟨0, p.1, rfl⟩)

theorem cycsTo_succ (n : Nat) (f : Nat → Nat) (i : Nat) : cycsTo n f (i + 1) = if isMin n f i = true then cycsTo n f i ++ [ints (cyc n f i)] else cycsTo n f i := by
 unfold cycsTo
 rw [List.range_succ, List.filter_append, List.map_append]
 by_cases c : isMin n f i = true
 ·simp [c]
 ·simp [c]

def cycTo (f : Nat → Nat) (i k : Nat) : List Int := ints ((List.range k).map fun m => it f m i)

theorem cycTo_succ (f : Nat → Nat) (i k : Nat) : cycTo f i (k + 1) = cycTo f i k ++ [(it f k i : Int)] := by simp [cycTo, ints, List.range_succ]

theorem cycTo_len (f : Nat → Nat) (i k : Nat) : (cycTo f i k).length = k := by simp [cycTo, ints]

theorem implCycles_ev {n : Nat} {f : Nat → Nat} (hn : n ≤ 1000) (hf : Bij n f) : Ev (fun k => impl_cyclesOf.f k (pm n f)) (cycsL n f) := by
 have outer : ∀ d i (s : List Bool), i + d = n → seenTo n f i s → Ev (fun k => impl_cyclesOf.l0 k (pm n f) (cycsTo n f i) s (n : Int) (i : Int)) (cycsL n f) := by
  intro d
  induction d with
  | zero =>
   intro i s hi hs
   have e : i = n := by omega
   subst e
   exact Ev.step (f := fun _ => some (cycsTo i f i)) (fun k => by rw [impl_cyclesOf.l0, if_neg (by omega)]) (Ev.now _)
  | succ d ih =>
   intro i s hi hs
   have hin : i < n := by omega
   have cl := cycsTo_len n f i
   refine Ev.step (f := fun k => impl_cyclesOf.l1 k (pm n f) (cycsTo n f i) s [] (i : Int) (n : Int) (i : Int)) (fun k => by rw [impl_cyclesOf.l0, if_pos (by omega)]) ?_
   by_cases hm : isMin n f i = true
   ·have inner : ∀ e k (s : List Bool), k + e = per n f i → seenIn n f i k s → Ev (fun q => impl_cyclesOf.l1 q (pm n f) (cycsTo n f i) s (cycTo f i k) (it f k i : Int) (n : Int) (i : Int)) (cycsL n f) := by
     intro e
     induction e with
     | zero =>
      intro k s hk hs
      have ek : k = per n f i := by omega
      subst ek
      have p := per_spec hf hin
      have ho := seen_old hf hin hs
      refine Ev.step (f := fun q => impl_cyclesOf.l0 q (pm n f) (cycsTo n f (i + 1)) s (n : Int) ((i + 1 : Nat) : Int)) (fun q => by
       rw [impl_cyclesOf.l1, if_pos (by omega), if_pos (by rw [hs.1]; have := it_lt hf (per n f i) hin; omega), if_pos ho, if_pos (by rw [cycTo_len]; omega), if_pos (by omega), wrap_nat (by omega), cycsTo_succ, if_pos hm]; rfl) ?_
      exact ih (i + 1) s (by omega) (seen_end hf hin hs)
     | succ e ihe =>
      intro k s hk hs
      have hkn := it_lt hf k hin
      have p := per_spec hf hin
      have hnew := seen_new hf hin hs hm (by omega)
      refine Ev.step (f := fun q => impl_cyclesOf.l1 q (pm n f) (cycsTo n f i) (s.set (it f k i) true) (cycTo f i (k + 1)) (it f (k + 1) i : Int) (n : Int) (i : Int)) (fun q => by
       rw [impl_cyclesOf.l1, if_pos (by omega), if_pos (by rw [hs.1]; omega), if_neg (by rw [hnew]; simp), if_pos (by rw [cycTo_len]; omega), if_pos (by rw [pm_length]; omega), rd_pm hkn, cycTo_succ]; rfl) ?_
      exact ihe (k + 1) _ (by omega) (seen_step hf hin hs)
    exact inner (per n f i) 0 s (by omega) (seen_in hs)
   ·have ht : rdOf false s (i : Int) = true := by rw [seen_min hf hin hs]; simp [hm]
    refine Ev.step (f := fun q => impl_cyclesOf.l0 q (pm n f) (cycsTo n f (i + 1)) s (n : Int) ((i + 1 : Nat) : Int)) (fun q => by
     rw [impl_cyclesOf.l1, if_pos (by omega), if_pos (by rw [hs.1]; omega), if_pos ht, if_neg (by simp), wrap_nat (by omega), cycsTo_succ, if_neg hm]) ?_
    exact ih (i + 1) s (by omega) (seen_skip hf hin hs ht)
 unfold impl_cyclesOf.f
 simp only [pm_length]
 refine Ev.pos (by omega) (Ev.pos (by omega) ?_)
 have := outer n 0 _ (by omega) (seen_start n f)
 simpa [cycsTo] using this

theorem specCycles_ev {n : Nat} {f : Nat → Nat} (hn : n ≤ 1000) (hf : Bij n f) : Ev (fun k => spec_l1Cycles.f k (pm n f)) (cycsL n f) := by
 have outer : ∀ d i (s : List Bool), i + d = n → seenTo n f i s → Ev (fun k => spec_l1Cycles.l0 k (pm n f) (cycsTo n f i) s (i : Int)) (cycsL n f) := by
  intro d
  induction d with
  | zero =>
   intro i s hi hs
   have e : i = n := by omega
   subst e
   exact Ev.step (f := fun _ => some (cycsTo i f i)) (fun k => by rw [spec_l1Cycles.l0, if_neg (by rw [pm_length]; omega)]) (Ev.now _)
  | succ d ih =>
   intro i s hi hs
   have hin : i < n := by omega
   have cl := cycsTo_len n f i
   by_cases hm : isMin n f i = true
   ·have hnew : rdOf false s (i : Int) = false := by rw [seen_min hf hin hs]; simp [hm]
    refine Ev.step (f := fun k => spec_l1Cycles.l1 k (pm n f) (cycsTo n f i) s (i : Int) [] (i : Int)) (fun k => by
     rw [spec_l1Cycles.l0, if_pos (by rw [pm_length]; omega), if_pos (by omega), if_pos (by rw [hs.1]; omega), if_neg (by rw [hnew]; simp)]) ?_
    have inner : ∀ e k (s : List Bool), k + e = per n f i → seenIn n f i k s → Ev (fun q => spec_l1Cycles.l1 q (pm n f) (cycsTo n f i) s (i : Int) (cycTo f i k) (it f k i : Int)) (cycsL n f) := by
     intro e
     induction e with
     | zero =>
      intro k s hk hs
      have ek : k = per n f i := by omega
      subst ek
      have p := per_spec hf hin
      have ho := seen_old hf hin hs
      refine Ev.step (f := fun q => spec_l1Cycles.l0 q (pm n f) (cycsTo n f (i + 1)) s ((i + 1 : Nat) : Int)) (fun q => by
       rw [spec_l1Cycles.l1, if_pos (by omega), if_pos (by rw [hs.1]; have := it_lt hf (per n f i) hin; omega), if_pos ho, if_pos (by omega), wrap_nat (by omega), cycsTo_succ, if_pos hm]; rfl) ?_
      exact ih (i + 1) s (by omega) (seen_end hf hin hs)
     | succ e ihe =>
      intro k s hk hs
      have hkn := it_lt hf k hin
      have p := per_spec hf hin
      have hnew := seen_new hf hin hs hm (by omega)
      refine Ev.step (f := fun q => spec_l1Cycles.l1 q (pm n f) (cycsTo n f i) (s.set (it f k i) true) (i : Int) (cycTo f i (k + 1)) (it f (k + 1) i : Int)) (fun q => by
       rw [spec_l1Cycles.l1, if_pos (by omega), if_pos (by rw [hs.1]; omega), if_neg (by rw [hnew]; simp), if_pos (by rw [cycTo_len]; omega), if_pos (by rw [pm_length]; omega), rd_pm hkn, cycTo_succ]; rfl) ?_
      exact ihe (k + 1) _ (by omega) (seen_step hf hin hs)
    exact inner (per n f i) 0 s (by omega) (seen_in hs)
   ·have ht : rdOf false s (i : Int) = true := by rw [seen_min hf hin hs]; simp [hm]
    refine Ev.step (f := fun q => spec_l1Cycles.l0 q (pm n f) (cycsTo n f (i + 1)) s ((i + 1 : Nat) : Int)) (fun q => by
     rw [spec_l1Cycles.l0, if_pos (by rw [pm_length]; omega), if_pos (by omega), if_pos (by rw [hs.1]; omega), if_pos ht, wrap_nat (by omega), cycsTo_succ, if_neg hm]) ?_
    exact ih (i + 1) s (by omega) (seen_skip hf hin hs ht)
 unfold spec_l1Cycles.f
 simp only [pm_length]
 refine Ev.pos (by omega) (Ev.pos (by omega) ?_)
 have := outer n 0 _ (by omega) (seen_start n f)
 simpa [cycsTo] using this

theorem isPerm_len {n : Nat} {a : List Int} {f : Nat → Nat} (h : IsPerm n a f) : a.length = n := by rw [h.2.2.2, pm_length]

theorem isPerm_valid {n : Nat} {a : List Int} {f : Nat → Nat} (h : IsPerm n a f) : impl_PermValid.validB a = true :=
 (valid_iff a).2 ⟨f, by rw [isPerm_len h]; exact h⟩

theorem ints_len (l : List Nat) : (ints l).length = l.length := by simp [ints]

theorem ints_rd {l : List Nat} {i : Nat} (h : i < l.length) : rd (ints l) (i : Int) = (l[i] : Int) := by
 rw [rd_get (by rw [ints_len]; exact h)]; simp [ints]

theorem xor_i64_nat (a b : Nat) (ha : a < 9223372036854775808) (hb : b < 9223372036854775808) : Go.bits .xor .i64 (a : Int) (b : Int) = ((a ^^^ b : Nat) : Int) := by
 have hx : a ^^^ b < 2 ^ 63 := Nat.xor_lt_two_pow (by omega) (by omega)
 have h1 : (BitVec.ofInt 64 (a : Int)).toNat = a := by
  rw [BitVec.ofInt_natCast, BitVec.toNat_ofNat]; exact Nat.mod_eq_of_lt (by omega)
 have h2 : (BitVec.ofInt 64 (b : Int)).toNat = b := by
  rw [BitVec.ofInt_natCast, BitVec.toNat_ofNat]; exact Nat.mod_eq_of_lt (by omega)
 show IntKind.i64.wrap ((BitVec.ofInt 64 (a : Int) ^^^ BitVec.ofInt 64 (b : Int)).toNat : Int) = _
 rw [BitVec.toNat_xor, h1, h2]
 simp [IntKind.wrap, IntKind.bits, IntKind.signed]
 omega

theorem xor_i64_pos {a b : Int} (h1 : 0 ≤ a) (h2 : a < 9223372036854775808) (h3 : 0 ≤ b) (h4 : b < 9223372036854775808) : 0 ≤ Go.bits .xor .i64 a b := by
 obtain ⟨m, rfl⟩ : ∃ m : Nat, a = m := ⟨a.toNat, by omega⟩
 obtain ⟨k, rfl⟩ : ∃ k : Nat, b = k := ⟨b.toNat, by omega⟩
 rw [xor_i64_nat _ _ (by omega) (by omega)]
 omega

/-- a code's bytes -/
def Bytes (s : List Int) : Prop := s.length ≤ 2000 ∧ ∀ x, x ∈ s → 0 ≤ x ∧ x ≤ 255

theorem Bytes.rd {s : List Int} (h : Bytes s) (i : Int) : 0 ≤ rd s i ∧ rd s i ≤ 255 := by
 unfold Go.Proofs.YtajmkjeiegdpcaaW.PrintWords.rd
 rw [List.getD_eq_getElem?_getD]
 cases e : s[i.toNat]? with
 | none => simp
 | some x => exact h.2 x (List.mem_of_getElem? e)

theorem tmod_in {a n : Int} (ha : 0 ≤ a) (hn : 1 ≤ n) : 0 ≤ Int.tmod a n ∧ Int.tmod a n < n := by
 rw [Int.tmod_eq_emod_of_nonneg ha]
 exact ⟨Int.emod_nonneg _ (by omega), Int.emod_lt_of_pos _ (by omega)⟩

theorem pick_ev {s : List Int} (hs : Bytes s) {p n : Int} (h0 : 0 ≤ p) (h1 : p ≤ 1000000000) (hn : n ≤ 1000000000) :
 ∃ v, Ev (fun k => spec_l6Rd_pick.f k s p n) (v, p + 1) ∧ 0 ≤ v ∧ v ≤ 1000000000 ∧ (1 ≤ n → v < n) := by
 have w1 : wrap64 (p + 1) = p + 1 := wrap_in (by omega) (by omega)
 have w2 : wrap64 (p + 1 - 1) = p := by rw [wrap_in (by omega) (by omega)]; omega
 unfold spec_l6Rd_pick.f
 by_cases c : n < 1
 ·refine ⟨0, Ev.pos c ?_, by omega, by omega, fun e => by omega⟩
  rw [w1]
  exact Ev.step (f := fun _ => some (0, p + 1)) (fun k => by rw [spec_l6Rd_pick.j0, if_pos rfl]) (Ev.now _)
 ·by_cases d : s.length = 0
  ·refine ⟨0, Ev.neg c ?_, by omega, by omega, fun e => by omega⟩
   rw [w1]
   have e : ((s.length : Int) == 0) = true := by simp [d]
   rw [e]
   exact Ev.step (f := fun _ => some (0, p + 1)) (fun k => by rw [spec_l6Rd_pick.j0, if_pos rfl]) (Ev.now _)
  ·have e : ((s.length : Int) == 0) = false := by
    exact beq_eq_false_iff_ne.mpr (by omega)
   have hl := hs.1
   by_cases f : p < s.length
   ·have r := hs.rd p
    have t := tmod_in (a := rd s p) (n := n) r.1 (by omega)
    refine ⟨Int.tmod (rd s p) n, Ev.neg c ?_, t.1, by omega, fun _ => t.2⟩
    rw [w1, e]
    refine Ev.step (f := fun _ => some (Int.tmod (rd s p) n, p + 1)) (fun k => by
     rw [spec_l6Rd_pick.j0, w2, if_neg (by simp), if_pos f, if_pos h0, if_neg (by omega), wrap_in (by omega) (by omega)]) (Ev.now _)
   ·have m1 := tmod_in (a := p) (n := (s.length : Int)) h0 (by omega)
    have w3 : wrap64 (p * 7) = p * 7 := wrap_in (by omega) (by omega)
    have w4 : wrap64 (p * 7 + 3) = p * 7 + 3 := wrap_in (by omega) (by omega)
    have m2 := tmod_in (a := p * 7 + 3) (n := (s.length : Int)) (by omega) (by omega)
    obtain ⟨A, hA⟩ : ∃ A, A = rd s (Int.tmod p (s.length : Int)) := ⟨_, rfl⟩
    obtain ⟨B, hB⟩ : ∃ B, B = rd s (Int.tmod (p * 7 + 3) (s.length : Int)) := ⟨_, rfl⟩
    have a1 : 0 ≤ A ∧ A ≤ 255 := by rw [hA]; exact hs.rd _
    have b1 : 0 ≤ B ∧ B ≤ 255 := by rw [hB]; exact hs.rd _
    obtain ⟨D, hD⟩ : ∃ D, D = Int.tdiv p (s.length : Int) := ⟨_, rfl⟩
    have d1 : 0 ≤ D ∧ D ≤ p := by
     rw [hD, Int.tdiv_eq_ediv_of_nonneg h0]
     exact ⟨Int.ediv_nonneg h0 (by omega), Int.ediv_le_self _ h0⟩
    obtain ⟨X, hX⟩ : ∃ X, X = A * 131 + B * 1117 + p * 29 + D * 53 := ⟨_, rfl⟩
    have x1 : 0 ≤ X ∧ X ≤ 100000000000 := by omega
    have y1 : 0 ≤ Int.tdiv X 64 ∧ Int.tdiv X 64 ≤ X := by
     rw [Int.tdiv_eq_ediv_of_nonneg x1.1]; omega
    have z := xor_i64_pos (a := X) (b := Int.tdiv X 64) x1.1 (by omega) y1.1 (by omega)
    have t := tmod_in (n := n) z (by omega)
    refine ⟨Int.tmod (Go.bits .xor .i64 X (Int.tdiv X 64)) n, Ev.neg c ?_, t.1, by omega, fun _ => t.2⟩
    rw [w1, e]
    refine Ev.step (f := fun _ => some (Int.tmod (Go.bits .xor .i64 X (Int.tdiv X 64)) n, p + 1)) (fun k => by
     rw [spec_l6Rd_pick.j0, w2, if_neg (by simp), if_neg f, if_neg (by omega), if_pos m1.1, if_pos m1.2, w3, w4, if_pos m2.1, if_pos m2.2, if_neg (by omega), ← hA, ← hB, ← hD]
     rw [wrap_in (n := A) (by omega) (by omega), wrap_in (n := B) (by omega) (by omega), wrap_in (n := A * 131) (by omega) (by omega), wrap_in (n := B * 1117) (by omega) (by omega), wrap_in (n := A * 131 + B * 1117) (by omega) (by omega), wrap_in (n := p * 29) (by omega) (by omega), wrap_in (n := A * 131 + B * 1117 + p * 29) (by omega) (by omega), wrap_in (n := D) (by omega) (by omega), wrap_in (n := D * 53) (by omega) (by omega), wrap_in (n := A * 131 + B * 1117 + p * 29 + D * 53) (by omega) (by omega), ← hX, wrap_in (n := Int.tdiv X 64) (by omega) (by omega)]) (Ev.now _)

theorem open_ev {l : List Int} (hw : ∀ x ∈ l, (Lit.int .u8 x).wf = true) : ∃ s, Bytes s ∧ Ev (fun _ => spec_l6Open.f l) (s, 0) := by
 have hb : ∀ x, x ∈ l → 0 ≤ x ∧ x ≤ 255 := by
  intro x hx
  have := hw x hx
  simp [Lit.wf, IntKind.min, IntKind.max, IntKind.signed, IntKind.bits] at this
  omega
 unfold spec_l6Open.f
 by_cases c : (l.length : Int) > 2000
 ·refine ⟨l.take 2000, ⟨by simp; omega, fun x hx => hb x (List.mem_of_mem_take hx)⟩, Ev.pos c (Ev.pos (by omega) (Ev.now _))⟩
 ·exact ⟨l, ⟨by omega, hb⟩, Ev.neg c (Ev.now _)⟩

/-- f with the point n put into the cycle ahead of k -/
def ins (n k : Nat) (f : Nat → Nat) (x : Nat) : Nat := if x = n then f k else if x = k then n else f x

theorem ins_bij {n k : Nat} {f : Nat → Nat} (hf : Bij n f) (hk : k < n) : Bij (n + 1) (ins n k f) := by
 constructor
 ·intro i hi
  unfold ins
  split
  ·have := hf.1 k hk; omega
  ·split
   ·omega
   ·have := hf.1 i (by omega); omega
 ·intro i j hi hj e
  unfold ins at e
  have bi : i ≠ n → f i < n := fun h => hf.1 i (by omega)
  have bj : j ≠ n → f j < n := fun h => hf.1 j (by omega)
  have bk := hf.1 k hk
  by_cases a1 : i = n <;> by_cases a2 : j = n
  ·omega
  ·rw [if_pos a1, if_neg a2] at e
   by_cases a3 : j = k
   ·rw [if_pos a3] at e; omega
   ·rw [if_neg a3] at e; exact absurd (hf.2 k j hk (by omega) e) (fun h => a3 h.symm)
  ·rw [if_neg a1, if_pos a2] at e
   by_cases a3 : i = k
   ·rw [if_pos a3] at e; omega
   ·rw [if_neg a3] at e; exact absurd (hf.2 i k (by omega) hk e) a3
  ·rw [if_neg a1, if_neg a2] at e
   by_cases a3 : i = k <;> by_cases a4 : j = k
   ·omega
   ·rw [if_pos a3, if_neg a4] at e; have := bj a2; omega
   ·rw [if_neg a3, if_pos a4] at e; have := bi a1; omega
   ·rw [if_neg a3, if_neg a4] at e; exact hf.2 i j (by omega) (by omega) e

theorem add_bij {n : Nat} {f : Nat → Nat} (hf : Bij n f) : Bij (n + 1) (fun x => if x = n then n else f x) := by
 constructor
 ·intro i hi
  show (if i = n then n else f i) < n + 1
  split
  ·omega
  ·have := hf.1 i (by omega); omega
 ·intro i j hi hj e
  have e' : (if i = n then n else f i) = (if j = n then n else f j) := e
  by_cases a1 : i = n <;> by_cases a2 : j = n
  ·omega
  ·rw [if_pos a1, if_neg a2] at e'; have := hf.1 j (by omega); omega
  ·rw [if_neg a1, if_pos a2] at e'; have := hf.1 i (by omega); omega
  ·rw [if_neg a1, if_neg a2] at e'; exact hf.2 i j (by omega) (by omega) e'

theorem perm_ev {s : List Int} (hs : Bytes s) {p : Int} (h0 : 0 ≤ p) (h1 : p ≤ 1000000) {n : Nat} (hn : n ≤ 1000) : ∃ f, Bij n f ∧ Ev (fun k => spec_l91Perm.f k s p (n : Int)) (pm n f, p + n) := by
 have loop : ∀ d i (f : Nat → Nat), i + d = n → Bij i f → ∃ g, Bij n g ∧ Ev (fun k => spec_l91Perm.l0 k (n : Int) (pm i f) (i : Int) s (p + i)) (pm n g, p + n) := by
  intro d
  induction d with
  | zero =>
   intro i f hi hf
   have e : i = n := by omega
   subst e
   exact ⟨f, hf, Ev.step (f := fun _ => some (pm i f, p + i)) (fun k => by rw [spec_l91Perm.l0, if_neg (by omega)]) (Ev.now _)⟩
  | succ d ih =>
   intro i f hi hf
   obtain ⟨v, ev, v0, _, v1⟩ := pick_ev hs (p := p + i) (n := (i : Int) + 1) (by omega) (by omega) (by omega)
   have v2 := v1 (by omega)
   obtain ⟨k, rfl⟩ : ∃ k : Nat, v = k := ⟨v.toNat, by omega⟩
   have ep : p + (i : Int) + 1 = p + ((i + 1 : Nat) : Int) := by omega
   by_cases c : k = i
   ·subst c
    obtain ⟨g, hg, eg⟩ := ih (k + 1) _ (by omega) (add_bij hf)
    refine ⟨g, hg, ?_⟩
    refine Ev.step (fun q => by rw [spec_l91Perm.l0]) (Ev.pos (by omega) ?_)
    rw [wrap_nat (by omega)]
    refine Ev.bind1 ev (Ev.pos rfl (Ev.pos (by rw [pm_length]; omega) ?_))
    have es : pm k f ++ [(k : Int)] = pm (k + 1) (fun x => if x = k then k else f x) := by
     unfold pm
     rw [List.range_succ, List.map_append]
     congr 1
     ·apply List.map_congr_left
      intro x hx
      have : x < k := by simpa using hx
      show (f x : Int) = ((if x = k then k else f x : Nat) : Int)
      rw [if_neg (by omega)]
     ·simp
    rw [es]
    show Ev (fun q => spec_l91Perm.l0 q _ _ _ s (p + (k : Int) + 1)) _
    rw [ep]
    exact eg
   ·have hk : k < i := by omega
    obtain ⟨g, hg, eg⟩ := ih (i + 1) _ (by omega) (ins_bij hf hk)
    refine ⟨g, hg, ?_⟩
    refine Ev.step (fun q => by rw [spec_l91Perm.l0]) (Ev.pos (by omega) ?_)
    rw [wrap_nat (by omega)]
    refine Ev.bind1 ev (Ev.neg (by show ¬ (k : Int) = i; omega) (Ev.pos (by show 0 ≤ (k : Int); omega) (Ev.pos (by rw [pm_length]; show (k : Int) < i; omega) (Ev.pos (by rw [pm_length]; omega) ?_))))
    refine Ev.some1 (Ev.pos (by simp [pm_length]; omega) ?_)
    have es : (pm i f ++ [rd (pm i f) (k : Int)]).set ((k : Int)).toNat (i : Int) = pm (i + 1) (ins i k f) := by
     refine eq_pm' (by simp [pm_length]) fun x hx => ?_
     rw [Int.toNat_natCast, rd_set (by simp [pm_length]; omega), rd_pm hk]
     unfold ins
     by_cases a1 : k = x
     ·rw [if_pos a1, if_neg (by omega), if_pos a1.symm]
     ·rw [if_neg a1]
      by_cases a2 : x = i
      ·rw [if_pos a2, a2]
       have : i < (pm i f ++ [(f k : Int)]).length := by simp [pm_length]
       rw [rd_get this]
       simp [pm_length]
      ·rw [if_neg a2, if_neg (fun e => a1 e.symm)]
       have hx' : x < i := by omega
       have : x < (pm i f ++ [(f k : Int)]).length := by simp [pm_length]; omega
       rw [rd_get this, List.getElem_append_left (by rw [pm_length]; exact hx'), ← rd_get (by rw [pm_length]; exact hx'), rd_pm hx']
    show Ev (fun q => spec_l91Perm.l0 q _ ((pm i f ++ [rd (pm i f) (k : Int)]).set ((k : Int)).toNat (i : Int)) _ s (p + (i : Int) + 1)) _
    rw [es, ep]
    exact eg
 obtain ⟨g, hg, eg⟩ := loop n 0 (fun x => x) (by omega) (id_bij 0)
 refine ⟨g, hg, ?_⟩
 unfold spec_l91Perm.f
 have : p + ((0 : Nat) : Int) = p := by omega
 rw [this] at eg
 exact eg

/-- some list of numbers, seldom no permutation -/
theorem some_ev {s : List Int} (hs : Bytes s) {p : Int} (h0 : 0 ≤ p) (h1 : p ≤ 100000) {n : Int} (hn : 1 ≤ n) (hn2 : n ≤ 20) : ∃ l p', Ev (fun k => spec_l91Some.f k s p n) (l, p') ∧ l.length ≤ 30 ∧ p ≤ p' ∧ p' ≤ p + 100 := by
 obtain ⟨v, ev, v0, _, v1⟩ := pick_ev hs (p := p) (n := n) h0 (by omega) (by omega)
 have v2 := v1 hn
 obtain ⟨m, rfl⟩ : ∃ m : Nat, v = m := ⟨v.toNat, by omega⟩
 obtain ⟨f, hf, ef⟩ := perm_ev hs (p := p + 1) (n := 1 + m) (by omega) (by omega) (by omega)
 obtain ⟨v', ev', v0', _, v1'⟩ := pick_ev hs (p := p + 1 + ((1 + m : Nat) : Int)) (n := 40) (by omega) (by omega) (by omega)
 have ew : wrap64 (1 + (m : Int)) = ((1 + m : Nat) : Int) := by rw [wrap_in (by omega) (by omega)]; omega
 unfold spec_l91Some.f
 have hl : (pm (1 + m) f).length = 1 + m := pm_length _ _
 by_cases c0 : v' = 0
 ·obtain ⟨v'', ev'', v0'', _, v1''⟩ := pick_ev hs (p := p + 1 + ((1 + m : Nat) : Int) + 1) (n := 2) (by omega) (by omega) (by omega)
  have := v1'' (by omega)
  refine ⟨(pm (1 + m) f).set 0 (rd [(-1), ((pm (1 + m) f).length : Int)] v''), p + 1 + ((1 + m : Nat) : Int) + 1 + 1, ?_, by simp [pm_length]; omega, by omega, by omega⟩
  refine Ev.bind1 ev ?_
  show Ev (fun n_1 => (spec_l91Perm.f n_1 s (p + 1) (wrap64 (1 + (m : Int)))).bind _) _
  rw [ew]
  exact Ev.bind1 ef (Ev.bind1 ev' (Ev.pos c0 (Ev.some1 (Ev.bind1 ev'' (Ev.pos v0'' (Ev.pos (by simp; omega) (Ev.pos (by simp [pm_length]; omega) (Ev.now _))))))))
 ·by_cases c1 : v' = 1
  ·refine ⟨[], p + 1 + ((1 + m : Nat) : Int) + 1, ?_, by simp, by omega, by omega⟩
   refine Ev.bind1 ev ?_
   show Ev (fun n_1 => (spec_l91Perm.f n_1 s (p + 1) (wrap64 (1 + (m : Int)))).bind _) _
   rw [ew]
   exact Ev.bind1 ef (Ev.bind1 ev' (Ev.neg c0 (Ev.pos c1 (Ev.now _))))
  ·by_cases c2 : v' = 2
   ·refine ⟨pm (1 + m) f ++ [rd (pm (1 + m) f) 0], p + 1 + ((1 + m : Nat) : Int) + 1, ?_, by simp [pm_length]; omega, by omega, by omega⟩
    refine Ev.bind1 ev ?_
    show Ev (fun n_1 => (spec_l91Perm.f n_1 s (p + 1) (wrap64 (1 + (m : Int)))).bind _) _
    rw [ew]
    exact Ev.bind1 ef (Ev.bind1 ev' (Ev.neg c0 (Ev.neg c1 (Ev.pos c2 (Ev.pos (by simp [pm_length]; omega) (Ev.pos (by simp [pm_length]; omega) (Ev.now _)))))))
   ·refine ⟨pm (1 + m) f, p + 1 + ((1 + m : Nat) : Int) + 1, ?_, by simp [pm_length]; omega, by omega, by omega⟩
    refine Ev.bind1 ev ?_
    show Ev (fun n_1 => (spec_l91Perm.f n_1 s (p + 1) (wrap64 (1 + (m : Int)))).bind _) _
    rw [ew]
    exact Ev.bind1 ef (Ev.bind1 ev' (Ev.neg c0 (Ev.neg c1 (Ev.neg c2 (Ev.now _)))))

theorem rdL_get {l : List (List Int)} {i : Nat} (h : i < l.length) : rd_L1 l (i : Int) = l[i] := by
 unfold rd_L1; simp [h]

theorem hasInt_ev {l : List Int} {a : Int} (hl : l.length ≤ 100000) (ha : a ∉ l) : Ev (fun k => laws_hasInt.f k l a) false := by
 have loop : ∀ d i, i + d = l.length → Ev (fun k => laws_hasInt.l0 k l a (i : Int)) false := by
  intro d
  induction d with
  | zero =>
   intro i hi
   exact Ev.step (f := fun _ => some false) (fun k => by rw [laws_hasInt.l0, if_neg (by omega)]) (Ev.now _)
  | succ d ih =>
   intro i hi
   have hi' : i < l.length := by omega
   refine Ev.step (f := fun k => laws_hasInt.l0 k l a ((i + 1 : Nat) : Int)) (fun k => by
    rw [laws_hasInt.l0, if_pos (by omega), if_pos (by omega), if_neg (by
     rw [rd_get hi']; intro e; exact ha (e ▸ List.getElem_mem hi')), wrap_nat (by omega)]) (ih (i + 1) (by omega))
 unfold laws_hasInt.f
 exact loop l.length 0 (by omega)

theorem sameLists_self {l : List (List Int)} (hl : l.length ≤ 100000) (he : ∀ x, x ∈ l → x.length ≤ 100000) : Ev (fun k => laws_sameLists.f k l l) true := by
 have loop : ∀ d i, i + d = l.length → Ev (fun k => laws_sameLists.l0 k l l (i : Int)) true := by
  intro d
  induction d with
  | zero =>
   intro i hi
   exact Ev.step (f := fun _ => some true) (fun k => by rw [laws_sameLists.l0, if_neg (by omega)]) (Ev.now _)
  | succ d ih =>
   intro i hi
   have hi' : i < l.length := by omega
   have hx := he _ (List.getElem_mem hi')
   refine Ev.step (fun k => by rw [laws_sameLists.l0]) ?_
   refine Ev.pos (by omega) (Ev.pos (by omega) (Ev.pos (by omega) (Ev.bind1 (sameInts_ev (by rw [rdL_get hi']; omega)) (Ev.pos (by simp) ?_))))
   rw [wrap_nat (by omega)]
   exact ih (i + 1) (by omega)
 unfold laws_sameLists.f
 exact Ev.pos rfl (loop l.length 0 (by omega))

theorem implPermCycles_pm {n : Nat} {a : List Int} {f : Nat → Nat} (h : IsPerm n a f) : Ev (fun k => impl_PermCycles.f k a) (cycsL n f, true) := by
 unfold impl_PermCycles.f
 refine Ev.bind1 (implValid_ev a) (Ev.pos (isPerm_valid h) ?_)
 rw [h.2.2.2]
 exact Ev.bind1 (implCycles_ev (by have := h.2.1; omega) h.2.2.1) (Ev.now _)

theorem specPermCycles_pm {n : Nat} {a : List Int} {f : Nat → Nat} (h : IsPerm n a f) : Ev (fun k => spec_PermCycles.f k a) (cycsL n f, true) := by
 have h12 := h.2.1
 have hl := isPerm_len h
 unfold spec_PermCycles.f
 refine Ev.bind1 (specValid_ev a (by omega)) (Ev.pos (isPerm_valid h) ?_)
 rw [h.2.2.2]
 exact Ev.bind1 (specCycles_ev (by omega) h.2.2.1) (Ev.now _)

theorem cycsL_mem {n : Nat} {f : Nat → Nat} {c : List Int} (h : c ∈ cycsL n f) : ∃ m, m < n ∧ isMin n f m = true ∧ c = ints (cyc n f m) := by
 unfold cycsL cycsTo at h
 obtain ⟨m, hm, e⟩ := List.mem_map.1 h
 have := mem_mins.1 hm
 exact ⟨m, this.1, this.2, e.symm⟩

theorem cycsL_len {n : Nat} {f : Nat → Nat} : (cycsL n f).length ≤ n := cycsTo_len n f n

theorem cyc_rd {n : Nat} {f : Nat → Nat} {m i : Nat} (h : i < per n f m) : rd (ints (cyc n f m)) (i : Int) = (it f i m : Int) := by
 rw [ints_rd (by rw [cyc_length]; exact h)]; simp [cyc]

theorem cyc_len {n : Nat} {f : Nat → Nat} {m : Nat} : (ints (cyc n f m)).length = per n f m := by rw [ints_len, cyc_length]

theorem drawCyc_ev {l : List Int} (hw : ∀ x ∈ l, (Lit.int .u8 x).wf = true) : ∃ p, p.length ≤ 30 ∧ Ev (fun k => spec_DrawPermCycles.f k l) p := by
 obtain ⟨s, hs, es⟩ := open_ev hw
 obtain ⟨p, q, e, hl, _⟩ := some_ev hs (p := 0) (by omega) (by omega) (n := 9) (by omega) (by omega)
 exact ⟨p, hl, Ev.bind1 es (Ev.bind1 e (Ev.now _))⟩

theorem cycsL_eq (n : Nat) (f : Nat → Nat) : cycsL n f = (mins n f).map fun m => ints (cyc n f m) := rfl

theorem mins_sorted (n : Nat) (f : Nat → Nat) : (mins n f).Pairwise (· < ·) := List.Pairwise.filter _ List.pairwise_lt_range

theorem not_mem_take {l : List Nat} (nd : l.Nodup) {i : Nat} (h : i < l.length) : l[i] ∉ l.take i := by
 intro hm
 obtain ⟨j, hj, e⟩ := List.mem_iff_getElem.1 hm
 rw [List.length_take] at hj
 rw [List.getElem_take] at e
 have hj2 : j < i := by omega
 have := List.pairwise_iff_getElem.1 nd j i (by omega) h hj2
 exact this e

/-- Each point is in one cycle. -/
theorem FnCycles : laws_FnCycles.Pure := by
 intro l hl1 hl2 hw
 refine Ev.rounds ?_
 unfold laws_FnCycles.f
 by_cases c : (l.length : Int) > 1048576
 ·exact Ev.pos c (Ev.now _)
 obtain ⟨p, hp, ep⟩ := drawCyc_ev hw
 refine Ev.neg c (Ev.bind1 ep ?_)
 by_cases v : impl_PermValid.validB p = true
 ·obtain ⟨f, hf⟩ := (valid_iff p).1 v
  obtain ⟨n, en⟩ : ∃ n, n = p.length := ⟨_, rfl⟩
  rw [← en] at hf
  have h12 := hf.2.1
  have hb := hf.2.2.1
  have lc : (cycsL n f).length ≤ n := cycsL_len
  have le : ∀ x, x ∈ cycsL n f → x.length ≤ 100000 := by
   intro x hx
   obtain ⟨m, hm, _, rfl⟩ := cycsL_mem hx
   have := (per_spec hb hm).2.1
   rw [cyc_len]; omega
  refine Ev.bind1 (implPermCycles_pm hf) (Ev.bind1 (specPermCycles_pm hf) (Ev.neg (by simp) (Ev.bind1 (sameLists_self (by show (cycsL n f).length ≤ _; omega) le) (Ev.pos rfl ?_))))
  refine Ev.step (fun k => by rw [laws_FnCycles.j0]) (Ev.neg (by simp) ?_)
  have flen : ∀ A B : List Nat, A ++ B = mins n f → ((A.map (cyc n f)).flatten).length ≤ n := by
   intro A B e
   have := flat_length hb
   unfold cycs at this
   rw [← e, List.map_append, List.flatten_append, List.length_append] at this
   omega
  have outer : ∀ (B A : List Nat) (last : Int), A ++ B = mins n f → (∀ b, b ∈ B → last < (b : Int)) → Ev (fun k => laws_FnCycles.l0 k p (cycsL n f) (ints ((A.map (cyc n f)).flatten)) last (A.length : Int)) true := by
   intro B
   induction B with
   | nil =>
    intro A last e _
    have eA : A = mins n f := by simpa using e
    refine Ev.step (f := fun _ => some true) (fun k => by
     rw [laws_FnCycles.l0, if_neg (by rw [cycsL_eq, List.length_map, eA]; omega)]
     have : (ints ((A.map (cyc n f)).flatten)).length = p.length := by
      rw [ints_len, eA, ← en]; exact flat_length hb
     rw [this]; simp) (Ev.now _)
   | cons m B ih =>
    intro A last e hlast
    have hmem : m ∈ mins n f := by rw [← e]; simp
    obtain ⟨hm, hmin⟩ := mem_mins.1 hmem
    have pr := per_spec hb hm
    have hA : A.length < (cycsL n f).length := by rw [cycsL_eq, List.length_map, ← e]; simp
    have hc : rd_L1 (cycsL n f) (A.length : Int) = ints (cyc n f m) := by
     rw [rdL_get hA]
     have : (cycsL n f)[A.length]? = some (ints (cyc n f m)) := by
      rw [cycsL_eq, ← e]; simp
     rw [List.getElem?_eq_getElem hA] at this
     exact Option.some.inj this
    have h0 : rd (ints (cyc n f m)) 0 = (m : Int) := cyc_rd (i := 0) pr.1
    refine Ev.step (f := fun k => laws_FnCycles.l1 k p (cycsL n f) (ints ((A.map (cyc n f)).flatten)) (m : Int) (A.length : Int) (ints (cyc n f m)) 0) (fun k => by
     rw [laws_FnCycles.l0, if_pos (by omega), if_pos (by omega), hc, if_pos (by rw [cyc_len]; omega), h0, if_neg (by have := hlast m (by simp); omega)]) ?_
    have nd : ((((A ++ [m]).map (cyc n f))).flatten).Nodup := by
     refine flat_nodup hb _ ?_ ?_
     ·have := mins_nodup n f
      rw [← e, show A ++ m :: B = (A ++ [m]) ++ B by simp] at this
      exact (List.nodup_append.1 this).1
     ·intro a ha
      refine mem_mins.1 ?_
      rw [← e, show A ++ m :: B = (A ++ [m]) ++ B by simp]
      exact List.mem_append_left _ ha
    have lf := flen A (m :: B) e
    have inner : ∀ d k, k + d = per n f m → Ev (fun q => laws_FnCycles.l1 q p (cycsL n f) (ints ((A.map (cyc n f)).flatten ++ (cyc n f m).take k)) (m : Int) (A.length : Int) (ints (cyc n f m)) (k : Int)) true := by
     intro d
     induction d with
     | zero =>
      intro k hk
      have ek : (A.map (cyc n f)).flatten ++ (cyc n f m).take k = (((A ++ [m]).map (cyc n f))).flatten := by
       rw [List.take_of_length_le (by rw [cyc_length]; omega)]; simp
      refine Ev.step (f := fun q => laws_FnCycles.l0 q p (cycsL n f) (ints ((((A ++ [m]).map (cyc n f))).flatten)) (m : Int) (((A ++ [m]).length : Nat) : Int)) (fun q => by
       rw [laws_FnCycles.l1, if_neg (by rw [cyc_len]; omega), wrap_nat (by omega), ek]; simp) ?_
      refine ih (A ++ [m]) (m : Int) (by rw [← e]; simp) ?_
      intro b hb'
      have so := mins_sorted n f
      rw [← e, List.pairwise_append] at so
      have := (List.pairwise_cons.1 so.2.1).1 b hb'
      omega
     | succ d ihd =>
      intro k hk
      have hkp : k < per n f m := by omega
      have hkn := it_lt hb k hm
      have hx : rd (ints (cyc n f m)) (k : Int) = (it f k m : Int) := cyc_rd hkp
      have hnot : (it f k m : Int) ∉ ints ((A.map (cyc n f)).flatten ++ (cyc n f m).take k) := by
       intro hin
       obtain ⟨z, hz, ez⟩ := List.mem_map.1 hin
       have ez' : z = it f k m := by omega
       subst ez'
       have hlen : (A.map (cyc n f)).flatten.length + k < (((A ++ [m]).map (cyc n f)).flatten).length := by
        simp [cyc_length]; omega
       have := not_mem_take nd hlen
       have e1 : (((A ++ [m]).map (cyc n f)).flatten) = (A.map (cyc n f)).flatten ++ cyc n f m := by simp
       apply this
       have e2 : (((A ++ [m]).map (cyc n f)).flatten)[(A.map (cyc n f)).flatten.length + k] = it f k m := by
        simp only [e1]
        rw [List.getElem_append_right (by omega)]
        simp [cyc]
       rw [e2, e1, List.take_append, List.take_of_length_le (by omega)]
       simpa using hz
      have hle : m ≤ it f k m := (isMin_iff hb hm).1 hmin k
      have hnext : rd (ints (cyc n f m)) (Int.tmod (wrap64 ((k : Int) + 1)) ((ints (cyc n f m)).length : Int)) = (f (it f k m) : Int) := by
       rw [wrap_nat (by omega), cyc_len, Int.tmod_eq_emod_of_nonneg (by omega)]
       by_cases ce : k + 1 = per n f m
       ·have : (((k + 1 : Nat) : Int) % (per n f m : Int)) = ((0 : Nat) : Int) := by rw [ce]; exact Int.emod_self
        rw [this, cyc_rd pr.1]
        have : f (it f k m) = m := by
         have := pr.2.2.1
         rw [← ce] at this
         exact this
        rw [this]; rfl
       ·have : (((k + 1 : Nat) : Int) % (per n f m : Int)) = ((k + 1 : Nat) : Int) := Int.emod_eq_of_lt (by omega) (by omega)
        rw [this, cyc_rd (by omega)]; rfl
      have hrange : 0 ≤ Int.tmod (wrap64 ((k : Int) + 1)) ((ints (cyc n f m)).length : Int) ∧ Int.tmod (wrap64 ((k : Int) + 1)) ((ints (cyc n f m)).length : Int) < ((ints (cyc n f m)).length : Int) := by
       rw [wrap_nat (by omega)]
       exact tmod_in (by omega) (by rw [cyc_len]; omega)
      have hpx : rd p (it f k m : Int) = (f (it f k m) : Int) := by rw [hf.2.2.2, rd_pm hkn]
      have hlen : (ints ((A.map (cyc n f)).flatten ++ (cyc n f m).take k)).length ≤ 100000 := by
       rw [ints_len, List.length_append, List.length_take]
       omega
      refine Ev.step (fun q => by rw [laws_FnCycles.l1]) ?_
      refine Ev.pos (by rw [cyc_len]; omega) (Ev.pos (by omega) ?_)
      simp only [hx]
      refine Ev.bind1 (hasInt_ev hlen hnot) (Ev.neg (by simp) (Ev.pos (by rw [cyc_len]; omega) ?_))
      rw [h0]
      refine Ev.neg (by omega) (Ev.pos (by omega) (Ev.pos (by omega) (Ev.neg (by rw [cyc_len]; omega) (Ev.pos hrange.1 (Ev.pos hrange.2 ?_)))))
      rw [hnext]
      refine Ev.pos hpx (Ev.pos (by omega) ?_)
      have es : ints ((A.map (cyc n f)).flatten ++ (cyc n f m).take k) ++ [(it f k m : Int)] = ints ((A.map (cyc n f)).flatten ++ (cyc n f m).take (k + 1)) := by
       rw [List.take_succ_eq_append_getElem (by rw [cyc_length]; omega)]
       simp [ints, cyc]
      rw [es, wrap_nat (by omega)]
      exact ihd (k + 1) (by omega)
    have := inner (per n f m) 0 (by omega)
    simpa using this
  exact outer (mins n f) [] (-1) (by simp) (fun b _ => by omega)
 ·have e1 : Ev (fun k => impl_PermCycles.f k p) ([], false) := by
   unfold impl_PermCycles.f
   exact Ev.bind1 (implValid_ev p) (Ev.neg v (Ev.now _))
  have e2 : Ev (fun k => spec_PermCycles.f k p) ([], false) := by
   unfold spec_PermCycles.f
   exact Ev.bind1 (specValid_ev p (by omega)) (Ev.neg v (Ev.now _))
  refine Ev.bind1 e1 (Ev.bind1 e2 (Ev.neg (by simp) (Ev.bind1 (sameLists_self (by simp) (by simp)) (Ev.pos rfl ?_))))
  refine Ev.step (fun k => by rw [laws_FnCycles.j0]) ?_
  exact Ev.pos rfl (Ev.pos rfl (Ev.bind1 (sameLists_self (by simp) (by simp)) (Ev.now _)))
end Go.Proofs.Ytajmkjeiegdpcaa.R
namespace Go.Proofs.Ytajmkjeiegdpcaa.Pure
theorem FnCycles : Go.Proofs.Ytajmkjeiegdpcaa.F.laws_FnCycles.Pure := Go.Proofs.Ytajmkjeiegdpcaa.R.FnCycles
end Go.Proofs.Ytajmkjeiegdpcaa.Pure
