/- Back and forth moves nothing. -/
import Derived.Test.YteffimfifgnleaaF0
import Derived.Test.YteffimfifgnleaaF1
import Derived.Test.YteffimfifgnleaaF10
import Derived.Test.YteffimfifgnleaaF15
import Derived.Test.YteffimfifgnleaaF16
import Derived.Test.YteffimfifgnleaaF17
import Derived.Test.YteffimfifgnleaaF21
import Derived.Test.YteffimfifgnleaaF22
import Derived.Test.YteffimfifgnleaaF23
import Derived.Test.YteffimfifgnleaaF24
import Derived.Test.YteffimfifgnleaaF25
import Derived.Test.YteffimfifgnleaaF26
import Derived.Test.YteffimfifgnleaaF27
import Derived.Test.YteffimfifgnleaaF28
import Derived.Test.YteffimfifgnleaaF4
import Derived.Test.YteffimfifgnleaaF5
import Derived.Test.YteffimfifgnleaaF6
import Derived.Test.YteffimfifgnleaaF7
set_option linter.unusedVariables false
set_option linter.unusedSimpArgs false
namespace Go.Proofs.Yteffimfifgnleaa.Sm
open List
/-- f permutes the numbers below n. -/
def Bij (n : Nat) (f : Nat → Nat) : Prop := (∀ i, i < n → f i < n) ∧ (∀ i j, i < n → j < n → f i = f j → i = j)

/-- the list of a permutation -/
def pm (n : Nat) (f : Nat → Nat) : List Int := (List.range n).map (fun i => (f i : Int))

theorem pm_length (n : Nat) (f : Nat → Nat) : (pm n f).length = n := by simp [pm]

theorem pm_getD (n : Nat) (f : Nat → Nat) (i : Nat) (h : i < n) : (pm n f).getD i 0 = (f i : Int) := by
  simp [pm, List.getD, h]

theorem pm_ext {n : Nat} {f g : Nat → Nat} : pm n f = pm n g ↔ ∀ i, i < n → f i = g i := by
  constructor
  · intro h i hi
    have := pm_getD n f i hi
    rw [h, pm_getD n g i hi] at this
    omega
  · intro h
    unfold pm
    apply List.map_congr_left
    intro i hi
    rw [h i (by simpa using hi)]

theorem eq_pm (n : Nat) (f : Nat → Nat) (l : List Int) (hl : l.length = n) (h : ∀ i, i < n → l.getD i 0 = (f i : Int)) : l = pm n f := by
  apply List.ext_getElem
  · rw [hl, pm_length]
  · intro i h1 h2
    have := h i (by omega)
    have e := pm_getD n f i (by omega)
    simp only [List.getD_eq_getElem?_getD, List.getElem?_eq_getElem h1, Option.getD_some] at this
    simp only [List.getD_eq_getElem?_getD, List.getElem?_eq_getElem h2, Option.getD_some] at e
    rw [this, e]

/-- the permutation without its last point -/
def byp (n : Nat) (f : Nat → Nat) (i : Nat) : Nat := if f i = n then f n else f i

theorem byp_bij {n : Nat} {f : Nat → Nat} (h : Bij (n + 1) f) : Bij n (byp n f) := by
  obtain ⟨h1, h2⟩ := h
  constructor
  · intro i hi
    unfold byp
    have a := h1 i (by omega)
    have b := h1 n (by omega)
    split
    · rename_i e
      have : f n ≠ n := fun e2 => by have := h2 i n (by omega) (by omega) (by omega); omega
      omega
    · omega
  · intro i j hi hj e
    unfold byp at e
    by_cases e1 : f i = n <;> by_cases e2 : f j = n
    · exact h2 i j (by omega) (by omega) (by omega)
    · rw [if_pos e1, if_neg e2] at e
      have := h2 n j (by omega) (by omega) e; omega
    · rw [if_neg e1, if_pos e2] at e
      have := h2 i n (by omega) (by omega) e; omega
    · rw [if_neg e1, if_neg e2] at e
      exact h2 i j (by omega) (by omega) e

theorem surj {n : Nat} {f : Nat → Nat} (h : Bij n f) : ∀ y, y < n → ∃ x, x < n ∧ f x = y := by
  induction n generalizing f with
  | zero => intro y hy; omega
  | succ n ih =>
    have hb := ih (byp_bij h)
    obtain ⟨h1, h2⟩ := h
    intro y hy
    by_cases e : y = n
    · subst e
      by_cases e1 : f y = y
      · exact ⟨y, by omega, e1⟩
      · have b := h1 y (by omega)
        obtain ⟨x, hx, e2⟩ := hb (f y) (by omega)
        unfold byp at e2
        split at e2
        · rename_i e3; exact ⟨x, by omega, e3⟩
        · have := h2 x y (by omega) (by omega) e2; omega
    · obtain ⟨x, hx, e2⟩ := hb y (by omega)
      unfold byp at e2
      split at e2
      · exact ⟨n, by omega, e2⟩
      · exact ⟨x, by omega, e2⟩

/-- the inverse below n -/
def finv (n : Nat) (f : Nat → Nat) (y : Nat) : Nat := ((List.range n).find? (fun i => f i == y)).getD 0

theorem finv_spec {n : Nat} {f : Nat → Nat} (h : Bij n f) {y : Nat} (hy : y < n) : finv n f y < n ∧ f (finv n f y) = y := by
  obtain ⟨x, hx, e⟩ := surj h y hy
  unfold finv
  cases hf : (List.range n).find? (fun i => f i == y) with
  | none =>
    rw [List.find?_eq_none] at hf
    exact absurd (hf x (by simpa using hx)) (by simp [e])
  | some z =>
    have a := List.mem_of_find?_eq_some hf
    have b := List.find?_some hf
    simp at a b
    exact ⟨by simpa using a, by simpa using b⟩

theorem finv_left {n : Nat} {f : Nat → Nat} (h : Bij n f) {x : Nat} (hx : x < n) : finv n f (f x) = x := by
  have := finv_spec h (h.1 x hx)
  exact h.2 _ _ this.1 hx this.2

theorem finv_bij {n : Nat} {f : Nat → Nat} (h : Bij n f) : Bij n (finv n f) := by
  refine ⟨fun i hi => (finv_spec h hi).1, fun i j hi hj e => ?_⟩
  have a := (finv_spec h hi).2
  have b := (finv_spec h hj).2
  rw [e] at a
  omega

theorem id_bij (n : Nat) : Bij n (fun i => i) := ⟨fun _ h => h, fun _ _ _ _ e => e⟩

/-- f done m times -/
def it (f : Nat → Nat) : Nat → Nat → Nat
  | 0, x => x
  | m + 1, x => f (it f m x)

theorem it_add (f : Nat → Nat) (a b x : Nat) : it f (a + b) x = it f a (it f b x) := by
  induction a with
  | zero => simp [it]
  | succ a ih => rw [Nat.succ_add]; simp [it, ih]

theorem it_succ' (f : Nat → Nat) (a x : Nat) : it f (a + 1) x = it f a (f x) := it_add f a 1 x

theorem it_lt {n : Nat} {f : Nat → Nat} (h : Bij n f) (m : Nat) {x : Nat} (hx : x < n) : it f m x < n := by
  induction m with
  | zero => exact hx
  | succ m ih => exact h.1 _ ih

theorem it_inj {n : Nat} {f : Nat → Nat} (h : Bij n f) (m : Nat) {x y : Nat} (hx : x < n) (hy : y < n) (e : it f m x = it f m y) : x = y := by
  induction m with
  | zero => exact e
  | succ m ih => exact ih (h.2 _ _ (it_lt h m hx) (it_lt h m hy) e)

/-- pigeonhole: more than n numbers below n: two are equal -/
theorem pigeon (n : Nat) (g : Nat → Nat) (h : ∀ i, i ≤ n → g i < n) : ∃ i j, i < j ∧ j ≤ n ∧ g i = g j := by
  induction n generalizing g with
  | zero => exact absurd (h 0 (by omega)) (by omega)
  | succ n ih =>
    by_cases c : ∃ i, i < n + 1 ∧ g i = g (n + 1)
    · obtain ⟨i, hi, e⟩ := c; exact ⟨i, n + 1, hi, by omega, e⟩
    · have c' : ∀ i, i < n + 1 → g i ≠ g (n + 1) := fun i hi e => c ⟨i, hi, e⟩
      obtain ⟨i, j, hij, hj, e⟩ := ih (fun i => if g i = n then g (n + 1) else g i) (fun i hi => by
        have a := h i (by omega)
        have b := h (n + 1) (by omega)
        have d := c' i (by omega)
        show (if g i = n then g (n + 1) else g i) < n
        split <;> omega)
      refine ⟨i, j, hij, by omega, ?_⟩
      have di := c' i (by omega)
      have dj := c' j (by omega)
      by_cases e1 : g i = n <;> by_cases e2 : g j = n
      · omega
      · rw [if_pos e1, if_neg e2] at e; omega
      · rw [if_neg e1, if_pos e2] at e; omega
      · rw [if_neg e1, if_neg e2] at e; exact e

theorem it_back {n : Nat} {f : Nat → Nat} (h : Bij n f) {x : Nat} (hx : x < n) : ∃ m, 0 < m ∧ m ≤ n ∧ it f m x = x := by
  obtain ⟨i, j, hij, hj, e⟩ := pigeon n (fun m => it f m x) (fun m _ => it_lt h m hx)
  refine ⟨j - i, by omega, by omega, ?_⟩
  have : it f (i + (j - i)) x = it f i (it f (j - i) x) := it_add ..
  rw [show i + (j - i) = j by omega] at this
  exact (it_inj h i hx (it_lt h _ hx) (e.trans this)).symm

/-- the least positive m with p m, below a bound; else 0 -/
def least (p : Nat → Bool) (n : Nat) : Nat := ((List.range n).find? (fun m => p (m + 1))).elim 0 (· + 1)

theorem find_range_some {n : Nat} {p : Nat → Bool} {m : Nat} (h : (List.range n).find? p = some m) : m < n ∧ p m = true ∧ ∀ k, k < m → p k = false := by
  induction n generalizing m with
  | zero => simp at h
  | succ n ih =>
    rw [List.range_succ, List.find?_append] at h
    cases e : (List.range n).find? p with
    | some z =>
      rw [e] at h; simp at h; subst h
      have := ih e
      exact ⟨by omega, this.2⟩
    | none =>
      rw [e] at h
      simp at h
      obtain ⟨h1, rfl⟩ := h
      refine ⟨by omega, h1, fun k hk => ?_⟩
      rw [List.find?_eq_none] at e
      simpa using e k (by simpa using hk)

theorem least_spec {p : Nat → Bool} {n m : Nat} (hm : 0 < m) (hn : m ≤ n) (h : p m = true) :
    0 < least p n ∧ least p n ≤ m ∧ p (least p n) = true ∧ ∀ k, 0 < k → k < least p n → p k = false := by
  unfold least
  cases e : (List.range n).find? (fun m => p (m + 1)) with
  | none =>
    rw [List.find?_eq_none] at e
    have := e (m - 1) (by simp; omega)
    rw [show m - 1 + 1 = m by omega] at this
    exact absurd h this
  | some z =>
    obtain ⟨h1, h2, h3⟩ := find_range_some e
    simp only [Option.elim_some]
    refine ⟨by omega, ?_, h2, fun k hk hk2 => ?_⟩
    · apply Nat.le_of_not_lt
      intro hlt
      have := h3 (m - 1) (by omega)
      rw [show m - 1 + 1 = m by omega, h] at this
      cases this
    · have := h3 (k - 1) (by omega)
      rwa [show k - 1 + 1 = k by omega] at this

/-- how long the cycle of x is -/
def per (n : Nat) (f : Nat → Nat) (x : Nat) : Nat := least (fun m => it f m x == x) n

theorem per_spec {n : Nat} {f : Nat → Nat} (h : Bij n f) {x : Nat} (hx : x < n) :
    0 < per n f x ∧ per n f x ≤ n ∧ it f (per n f x) x = x ∧ ∀ k, 0 < k → k < per n f x → it f k x ≠ x := by
  obtain ⟨m, h1, h2, h3⟩ := it_back h hx
  obtain ⟨a, b, c, d⟩ := least_spec (p := fun m => it f m x == x) (n := n) h1 h2 (by simpa using h3)
  refine ⟨a, by unfold per; omega, ?_, fun k hk hk2 => by simpa using d k hk hk2⟩
  have := eq_of_beq c
  exact this

theorem it_mul_per {n : Nat} {f : Nat → Nat} (h : Bij n f) {x : Nat} (hx : x < n) (q : Nat) : it f (per n f x * q) x = x := by
  induction q with
  | zero => rfl
  | succ q ih => rw [Nat.mul_succ, it_add, (per_spec h hx).2.2.1, ih]

theorem it_mod_per {n : Nat} {f : Nat → Nat} (h : Bij n f) {x : Nat} (hx : x < n) (m : Nat) : it f m x = it f (m % per n f x) x := by
  conv => lhs; rw [← Nat.mod_add_div m (per n f x)]
  rw [it_add, it_mul_per h hx]

/-- is i the least of its cycle? -/
def isMin (n : Nat) (f : Nat → Nat) (i : Nat) : Bool := (List.range n).all fun k => decide (i ≤ it f k i)

/-- the number of cycles -/
def cc (n : Nat) (f : Nat → Nat) : Nat := ((List.range n).filter (isMin n f)).length

theorem isMin_iff {n : Nat} {f : Nat → Nat} (h : Bij n f) {i : Nat} (hi : i < n) : isMin n f i = true ↔ ∀ k, i ≤ it f k i := by
  unfold isMin
  rw [List.all_eq_true]
  constructor
  · intro a k
    rw [it_mod_per h hi]
    have p := per_spec h hi
    have := a (k % per n f i) (by rw [mem_range]; have := Nat.mod_lt k p.1; omega)
    simpa using this
  · intro a k _
    simpa using a k

theorem cc_le (n : Nat) (f : Nat → Nat) : cc n f ≤ n := by
  unfold cc
  have := List.length_filter_le (isMin n f) (List.range n)
  simpa using this

/-- the points that f leads to from x -/
def orb (f : Nat → Nat) (x y : Nat) : Prop := ∃ k, it f k x = y

theorem orb_refl (f : Nat → Nat) (x : Nat) : orb f x x := ⟨0, rfl⟩

theorem orb_trans {f : Nat → Nat} {x y z : Nat} : orb f x y → orb f y z → orb f x z := by
  rintro ⟨a, rfl⟩ ⟨b, rfl⟩
  exact ⟨b + a, it_add f b a x⟩

theorem orb_lt {n : Nat} {f : Nat → Nat} (h : Bij n f) {x y : Nat} (hx : x < n) : orb f x y → y < n := by
  rintro ⟨k, rfl⟩; exact it_lt h k hx

theorem orb_symm {n : Nat} {f : Nat → Nat} (h : Bij n f) {x y : Nat} (hx : x < n) : orb f x y → orb f y x := by
  rintro ⟨k, rfl⟩
  have p := per_spec h hx
  refine ⟨per n f x - k % per n f x, ?_⟩
  rw [it_mod_per h hx k, ← it_add]
  have := Nat.mod_lt k p.1
  rw [show per n f x - k % per n f x + k % per n f x = per n f x by omega]
  exact p.2.2.1

/-- the cycle of x, from x on -/
def cyc (n : Nat) (f : Nat → Nat) (x : Nat) : List Nat := (List.range (per n f x)).map (fun k => it f k x)

theorem cyc_length (n : Nat) (f : Nat → Nat) (x : Nat) : (cyc n f x).length = per n f x := by simp [cyc]

theorem mem_cyc {n : Nat} {f : Nat → Nat} (h : Bij n f) {x y : Nat} (hx : x < n) : y ∈ cyc n f x ↔ orb f x y := by
  unfold cyc orb
  simp only [mem_map, mem_range]
  constructor
  · rintro ⟨k, _, e⟩; exact ⟨k, e⟩
  · rintro ⟨k, e⟩
    exact ⟨k % per n f x, Nat.mod_lt _ (per_spec h hx).1, by rw [← it_mod_per h hx]; exact e⟩

theorem it_inj_per {n : Nat} {f : Nat → Nat} (h : Bij n f) {x : Nat} (hx : x < n) {a b : Nat} (ha : a < per n f x) (hb : b < per n f x) (e : it f a x = it f b x) : a = b := by
  have key : ∀ a b, a < b → b < per n f x → it f a x = it f b x → False := by
    intro a b hab hb e
    have : it f (a + (b - a)) x = it f a (it f (b - a) x) := it_add ..
    rw [show a + (b - a) = b by omega, ← e] at this
    exact (per_spec h hx).2.2.2 (b - a) (by omega) (by omega) (it_inj h a hx (it_lt h _ hx) this).symm
  rcases Nat.lt_trichotomy a b with c | c | c
  · exact (key a b c hb e).elim
  · exact c
  · exact (key b a c ha e.symm).elim

theorem nodup_map_range {m : Nat} {g : Nat → Nat} (h : ∀ a b, a < m → b < m → g a = g b → a = b) : ((List.range m).map g).Nodup := by
  unfold Nodup
  rw [pairwise_map]
  have := nodup_range (n := m)
  unfold Nodup at this
  rw [pairwise_iff_getElem] at this ⊢
  intro i j hi hj hij e
  have hi' : i < m := by simpa using hi
  have hj' : j < m := by simpa using hj
  simp only [getElem_range] at e
  have := h i j hi' hj' e
  omega

theorem cyc_nodup {n : Nat} {f : Nat → Nat} (h : Bij n f) {x : Nat} (hx : x < n) : (cyc n f x).Nodup :=
  nodup_map_range fun _ _ ha hb e => it_inj_per h hx ha hb e

theorem isMin_iff' {n : Nat} {f : Nat → Nat} (h : Bij n f) {i : Nat} (hi : i < n) : isMin n f i = true ↔ ∀ j, j < i → ¬ orb f j i := by
  rw [isMin_iff h hi]
  constructor
  · rintro a j hj ⟨k, e⟩
    obtain ⟨k', e'⟩ := orb_symm h (by omega : j < n) ⟨k, e⟩
    have := a k'
    omega
  · intro a k
    apply Nat.le_of_not_lt
    intro hlt
    exact a _ hlt (orb_symm h hi ⟨k, rfl⟩)

/-- the least points of the cycles -/
def mins (n : Nat) (f : Nat → Nat) : List Nat := (List.range n).filter (isMin n f)

theorem mem_mins {n : Nat} {f : Nat → Nat} {i : Nat} : i ∈ mins n f ↔ i < n ∧ isMin n f i = true := by
  unfold mins; rw [mem_filter, mem_range]

/-- the least point of the cycle of x -/
theorem min_of {n : Nat} {f : Nat → Nat} (h : Bij n f) {x : Nat} (hx : x < n) : ∃ m, m < n ∧ isMin n f m = true ∧ orb f m x ∧ m ≤ x := by
  induction x using Nat.strongRecOn with
  | _ x ih =>
    by_cases c : isMin n f x = true
    · exact ⟨x, hx, c, orb_refl f x, Nat.le_refl _⟩
    · rw [isMin_iff' h hx] at c
      have : ∃ j, j < x ∧ orb f j x := by
        apply Classical.byContradiction
        intro d
        exact c fun j hj e => d ⟨j, hj, e⟩
      obtain ⟨j, hj, o⟩ := this
      obtain ⟨m, h1, h2, h3, h4⟩ := ih j hj (by omega)
      exact ⟨m, h1, h2, orb_trans h3 o, by omega⟩

theorem mins_eq {n : Nat} {f : Nat → Nat} (h : Bij n f) {a b x : Nat} (ha : a < n) (hb : b < n) (ma : isMin n f a = true) (mb : isMin n f b = true) (oa : orb f a x) (ob : orb f b x) : a = b := by
  have o1 : orb f a b := orb_trans oa (orb_symm h hb ob)
  have o2 : orb f b a := orb_symm h ha o1
  rcases Nat.lt_trichotomy a b with c | c | c
  · exact ((isMin_iff' h hb).1 mb a c o1).elim
  · exact c
  · exact ((isMin_iff' h ha).1 ma b c o2).elim

/-- all cycles -/
def cycs (n : Nat) (f : Nat → Nat) : List (List Nat) := (mins n f).map (cyc n f)

theorem flat_nodup {n : Nat} {f : Nat → Nat} (h : Bij n f) (l : List Nat) (nd : l.Nodup) (hl : ∀ a, a ∈ l → a < n ∧ isMin n f a = true) : ((l.map (cyc n f)).flatten).Nodup := by
  induction l with
  | nil => simp
  | cons a l ih =>
    rw [nodup_cons] at nd
    obtain ⟨h1, h2⟩ := hl a (by simp)
    rw [List.map_cons, List.flatten_cons, nodup_append]
    refine ⟨cyc_nodup h h1, ih nd.2 (fun b hb => hl b (by simp [hb])), ?_⟩
    intro x hx y hy e
    subst e
    rw [mem_flatten] at hy
    obtain ⟨c, hc, hxc⟩ := hy
    rw [mem_map] at hc
    obtain ⟨b, hb, rfl⟩ := hc
    obtain ⟨h3, h4⟩ := hl b (by simp [hb])
    have := mins_eq h h1 h3 h2 h4 ((mem_cyc h h1).1 hx) ((mem_cyc h h3).1 hxc)
    subst this
    exact nd.1 hb

theorem mins_nodup (n : Nat) (f : Nat → Nat) : (mins n f).Nodup := (nodup_range (n := n)).filter _

theorem flat_perm {n : Nat} {f : Nat → Nat} (h : Bij n f) : ((cycs n f).flatten).Perm (List.range n) := by
  rw [perm_iff_count]
  intro a
  have nd : ((cycs n f).flatten).Nodup := flat_nodup h (mins n f) (mins_nodup n f) (fun a ha => mem_mins.1 ha)
  rw [nd.count, (nodup_range (n := n)).count]
  have : a ∈ (cycs n f).flatten ↔ a ∈ List.range n := by
    rw [mem_flatten, mem_range]
    constructor
    · rintro ⟨c, hc, hac⟩
      unfold cycs at hc
      rw [mem_map] at hc
      obtain ⟨b, hb, rfl⟩ := hc
      have := mem_mins.1 hb
      exact orb_lt h this.1 ((mem_cyc h this.1).1 hac)
    · intro ha
      obtain ⟨m, h1, h2, h3, _⟩ := min_of h ha
      exact ⟨cyc n f m, by unfold cycs; rw [mem_map]; exact ⟨m, mem_mins.2 ⟨h1, h2⟩, rfl⟩, (mem_cyc h h1).2 h3⟩
  by_cases c : a ∈ List.range n
  · rw [if_pos c, if_pos (this.2 c)]
  · rw [if_neg c, if_neg (fun d => c (this.1 d))]

theorem per_eq {n : Nat} {f : Nat → Nat} (h : Bij n f) {x m : Nat} (hx : x < n) (h0 : 0 < m) (h1 : it f m x = x) (h2 : ∀ k, 0 < k → k < m → it f k x ≠ x) : per n f x = m := by
  have p := per_spec h hx
  rcases Nat.lt_trichotomy (per n f x) m with c | c | c
  · exact (h2 _ p.1 c p.2.2.1).elim
  · exact c
  · exact (p.2.2.2 m h0 c h1).elim

/-- all points of a cycle have one period -/
theorem per_it {n : Nat} {f : Nat → Nat} (h : Bij n f) {x : Nat} (hx : x < n) (a : Nat) : per n f (it f a x) = per n f x := by
  have p := per_spec h hx
  refine per_eq h (it_lt h a hx) p.1 ?_ ?_
  · rw [← it_add, Nat.add_comm, it_add, p.2.2.1]
  · intro k hk hk2 e
    rw [← it_add, Nat.add_comm, it_add] at e
    exact p.2.2.2 k hk hk2 (it_inj h a (it_lt h k hx) hx e)

theorem per_orb {n : Nat} {f : Nat → Nat} (h : Bij n f) {x y : Nat} (hx : x < n) (o : orb f x y) : per n f y = per n f x := by
  obtain ⟨k, rfl⟩ := o; exact per_it h hx k

theorem it_inv {n : Nat} {f g : Nat → Nat} (hf : Bij n f) (e : ∀ x, x < n → g (f x) = x) (m : Nat) {x : Nat} (hx : x < n) : it g m (it f m x) = x := by
  induction m with
  | zero => rfl
  | succ m ih => rw [it_succ' g]; show it g m (g (f (it f m x))) = x; rw [e _ (it_lt hf m hx), ih]

theorem per_inv {n : Nat} {f g : Nat → Nat} (hf : Bij n f) (hg : Bij n g) (e : ∀ x, x < n → g (f x) = x) {x : Nat} (hx : x < n) : per n g x = per n f x := by
  have p := per_spec hf hx
  refine per_eq hg hx p.1 ?_ ?_
  · have := it_inv hf e (per n f x) hx
    rwa [p.2.2.1] at this
  · intro m hm hm2 d
    have := it_inv hf e m hx
    have e2 : it g m (it f m x) = it g m x := by rw [this, d]
    exact p.2.2.2 m hm hm2 (it_inj hg m (it_lt hf m hx) hx e2)

/-- how many cycles have the length L -/
def cl (n : Nat) (f : Nat → Nat) (L : Nat) : Nat := (mins n f).countP (fun m => per n f m == L)

theorem countP_const {l : List Nat} {p : Nat → Bool} {b : Bool} (h : ∀ a, a ∈ l → p a = b) : l.countP p = if b then l.length else 0 := by
  cases b with
  | true => rw [if_pos rfl, countP_eq_length]; exact h
  | false => rw [if_neg (by simp), countP_eq_zero]; intro a ha; simp [h a ha]

theorem count_flat {n : Nat} {f : Nat → Nat} (h : Bij n f) (L : Nat) (l : List Nat) (hl : ∀ a, a ∈ l → a < n) : (l.map (cyc n f)).flatten.countP (fun x => per n f x == L) = l.countP (fun m => per n f m == L) * L := by
  induction l with
  | nil => simp
  | cons a l ih =>
    have ha := hl a (by simp)
    rw [List.map_cons, List.flatten_cons, countP_append, ih (fun b hb => hl b (by simp [hb])), countP_cons]
    rw [countP_const (b := per n f a == L) (fun x hx => by rw [per_orb h ha ((mem_cyc h ha).1 hx)]), cyc_length]
    by_cases c : per n f a = L
    · simp [c, Nat.add_mul, Nat.add_comm]
    · simp [c]

theorem cl_mul {n : Nat} {f : Nat → Nat} (h : Bij n f) (L : Nat) : cl n f L * L = (List.range n).countP (fun x => per n f x == L) := by
  rw [← (flat_perm h).countP_eq]
  unfold cl cycs
  rw [count_flat h L _ (fun a ha => (mem_mins.1 ha).1)]

theorem countP_congr' {l : List Nat} {p q : Nat → Bool} (h : ∀ a, a ∈ l → p a = q a) : l.countP p = l.countP q := by
  apply List.countP_congr
  intro a ha
  rw [h a ha]

theorem cl_inv {n : Nat} {f g : Nat → Nat} (hf : Bij n f) (hg : Bij n g) (e : ∀ x, x < n → g (f x) = x) {L : Nat} (hL : 0 < L) : cl n g L = cl n f L := by
  apply Nat.eq_of_mul_eq_mul_right hL
  rw [cl_mul hf, cl_mul hg]
  apply countP_congr'
  intro x hx
  rw [per_inv hf hg e (by simpa using hx)]
end Go.Proofs.Yteffimfifgnleaa.Sm
namespace Go.Proofs.Yteffimfifgnleaa.R
open Go.RowKit Go.Proofs.YteffimfifgnleaaW.PrintWords Go.Proofs.YteffimfifgnleaaW.PrintLast Go.Proofs.YteffimfifgnleaaW.PrintMore Go.Proofs.Yteffimfifgnleaa.F Go.Proofs.Yteffimfifgnleaa.Sm
theorem Ev.pos {α : Type} {c : Prop} [Decidable c] {A B : Nat → Option α} {r : α} (h : c) (k : Ev A r) : Ev (fun n => if c then A n else B n) r := by
  simp only [if_pos h]; exact k

theorem Ev.neg {α : Type} {c : Prop} [Decidable c] {A B : Nat → Option α} {r : α} (h : ¬ c) (k : Ev B r) : Ev (fun n => if c then A n else B n) r := by
  simp only [if_neg h]; exact k

theorem Ev.bind1 {α β : Type} {g : Nat → Option α} {f : Nat → α → Option β} {a : α} {r : β} (h : Ev g a) (k : Ev (fun n => f n a) r) : Ev (fun n => (g n).bind (f n)) r := Ev.bind h k

theorem Ev.some1 {α β : Type} {f : Nat → α → Option β} {a : α} {r : β} (k : Ev (fun n => f n a) r) : Ev (fun n => (some a).bind (f n)) r := k

theorem wrap_nat {i : Nat} (h : i < 9223372036854775807) : wrap64 ((i : Int) + 1) = ((i + 1 : Nat) : Int) := by unfold wrap64; omega

theorem wrap_in {n : Int} (h1 : -9223372036854775808 ≤ n) (h2 : n ≤ 9223372036854775807) : wrap64 n = n := by unfold wrap64; omega

theorem rd_get {l : List Int} {i : Nat} (h : i < l.length) : rd l (i : Int) = l[i] := by
  unfold rd; simp [h]

theorem rd_pm {n : Nat} {f : Nat → Nat} {i : Nat} (h : i < n) : rd (pm n f) (i : Int) = (f i : Int) := by
  unfold rd; exact pm_getD n f i h

/-- a list that is a permutation -/
def IsPerm (n : Nat) (l : List Int) (f : Nat → Nat) : Prop := 1 ≤ n ∧ n ≤ 12 ∧ Bij n f ∧ l = pm n f

theorem valid_iff (l : List Int) : impl_PermValid.validB l = true ↔ ∃ f, IsPerm l.length l f := by
  unfold impl_PermValid.validB
  simp only [Bool.and_eq_true, decide_eq_true_eq, List.all_eq_true, List.mem_range]
  constructor
  · rintro ⟨⟨h1, h2⟩, h3⟩
    have h3' : ∀ i, i < l.length → 0 ≤ rd l i ∧ rd l i < l.length ∧ ∀ j, j < i → rd l j ≠ rd l i := by
      intro i hi
      have := h3 i hi
      unfold impl_PermValid.okAt at this
      simp only [Bool.and_eq_true, decide_eq_true_eq, Bool.not_eq_true', List.contains_eq_mem, decide_eq_false_iff_not] at this
      refine ⟨this.1.1, this.1.2, fun j hj e => this.2 ?_⟩
      rw [← e, rd_get (show j < l.length by omega)]
      rw [List.mem_iff_getElem]
      exact ⟨j, by simp; omega, by simp⟩
    refine ⟨fun i => (rd l i).toNat, h1, h2, ⟨fun i hi => by have := h3' i hi; show (rd l i).toNat < _; omega, fun i j hi hj e => ?_⟩, ?_⟩
    · have a := h3' i hi
      have b := h3' j hj
      have e' : (rd l i).toNat = (rd l j).toNat := e
      rcases Nat.lt_trichotomy i j with c | c | c
      · exact (b.2.2 i c (by omega)).elim
      · exact c
      · exact (a.2.2 j c (by omega)).elim
    · refine eq_pm _ _ _ rfl fun i hi => ?_
      have := h3' i hi
      show l.getD i 0 = (((rd l i).toNat : Nat) : Int)
      have e : l.getD i 0 = rd l i := rfl
      omega
  · rintro ⟨f, h1, h2, hf, e⟩
    refine ⟨⟨h1, h2⟩, fun i hi => ?_⟩
    have r : ∀ j, j < l.length → rd l j = (f j : Int) := fun j hj => by
      have := rd_pm (n := l.length) (f := f) hj
      rwa [← e] at this
    unfold impl_PermValid.okAt
    simp only [Bool.and_eq_true, decide_eq_true_eq, Bool.not_eq_true', List.contains_eq_mem, decide_eq_false_iff_not]
    refine ⟨⟨by rw [r i hi]; omega, by rw [r i hi]; have := hf.1 i hi; omega⟩, fun hm => ?_⟩
    rw [List.mem_iff_getElem] at hm
    obtain ⟨j, hj, ej⟩ := hm
    have hj' : j < i := by simp at hj; omega
    have : l[j]'(by omega) = rd l i := by simpa using ej
    rw [← rd_get (show j < l.length by omega), r i hi, r j (by omega)] at this
    have := hf.2 j i (by omega) hi (by omega)
    omega

theorem implValid_ev (l : List Int) : Ev (fun _ => impl_PermValid.f l) (impl_PermValid.validB l) := Ev.now _

/-- the reference's look: up to i all is well -/
theorem specValid_ev (l : List Int) (hl : l.length ≤ 4294967296) : Ev (fun k => spec_PermValid.f k l) (impl_PermValid.validB l) := by
  have e0 : ∀ (a b c : Int), spec_l6In.f a b c = some (decide (b ≤ a) && decide (a ≤ c)) := by
    intro a b c
    unfold spec_l6In.f
    by_cases h : b ≤ a
    · rw [if_pos h]; simp [h]
    · rw [if_neg h]; simp [h]
  -- the inner loop
  have inner : ∀ d i j, i < l.length → j + d = i → (∀ m, m < j → rd l m ≠ rd l i) → ∀ r, ((∀ m, m < i → rd l m ≠ rd l i) → Ev (fun k => spec_PermValid.l0 k l ((i + 1 : Nat) : Int)) r) → ((∃ m, m < i ∧ rd l m = rd l i) → r = false) → Ev (fun k => spec_PermValid.l1 k l (i : Int) (j : Int)) r := by
    intro d
    induction d with
    | zero =>
      intro i j hi hj hm r h1 h2
      refine Ev.step (f := fun k => spec_PermValid.l0 k l ((i + 1 : Nat) : Int)) (fun k => by rw [spec_PermValid.l1, if_neg (by omega), wrap_nat (by omega)]) ?_
      exact h1 (fun m hmi => hm m (by omega))
    | succ d ih =>
      intro i j hi hj hm r h1 h2
      by_cases c : rd l (j : Int) = rd l (i : Int)
      · have := h2 ⟨j, by omega, c⟩
        subst this
        refine Ev.step (f := fun k => some false) (fun k => by
          rw [spec_PermValid.l1, if_pos (by omega), if_pos (by omega), if_pos (by omega), if_pos (by omega), if_pos (by omega), if_pos c]) (Ev.now _)
      · refine Ev.step (f := fun k => spec_PermValid.l1 k l (i : Int) ((j + 1 : Nat) : Int)) (fun k => by
          rw [spec_PermValid.l1, if_pos (by omega), if_pos (by omega), if_pos (by omega), if_pos (by omega), if_pos (by omega), if_neg c, wrap_nat (by omega)]) ?_
        refine ih i (j + 1) hi (by omega) (fun m hm' => ?_) r h1 h2
        by_cases e : m = j
        · subst e; exact c
        · exact hm m (by omega)
  have outer : ∀ d i, i + d = l.length → (∀ m, m < i → impl_PermValid.okAt l m = true) → Ev (fun k => spec_PermValid.l0 k l (i : Int)) (impl_PermValid.validB l) := by
    intro d
    induction d with
    | zero =>
      intro i hi hm
      have e : impl_PermValid.validB l = (decide ((1 : Int) ≤ (l.length : Int)) && decide ((l.length : Int) ≤ 12)) := by
        unfold impl_PermValid.validB
        have : (List.range l.length).all (impl_PermValid.okAt l) = true := by
          rw [List.all_eq_true]; intro m hm'; exact hm m (by have := List.mem_range.1 hm'; omega)
        rw [this]
        rw [Bool.and_true]
        congr 1
        · simp; omega
        · simp; omega
      refine Ev.step (f := fun _ => some (impl_PermValid.validB l)) (fun k => by rw [spec_PermValid.l0, if_neg (by omega), e0, e]; rfl) (Ev.now _)
    | succ d ih =>
      intro i hi hm
      have hil : i < l.length := by omega
      have fail : impl_PermValid.okAt l i = false → impl_PermValid.validB l = false := impl_PermValid.valid_fail l i hil
      have ew : wrap64 ((l.length : Int) - 1) = (l.length : Int) - 1 := wrap_in (by omega) (by omega)
      by_cases c : 0 ≤ rd l (i : Int) ∧ rd l (i : Int) ≤ (l.length : Int) - 1
      · refine Ev.step (f := fun k => spec_PermValid.l1 k l (i : Int) ((0 : Nat) : Int)) (fun k => by
          rw [spec_PermValid.l0, if_pos (by omega), if_pos (by omega), e0, ew]
          simp only [Option.bind_some]
          rw [if_pos (by simp [c.1, c.2])]; rfl) ?_
        refine inner i i 0 hil (by omega) (fun m hm' => absurd hm' (by omega)) _ (fun hd => ?_) (fun hd => ?_)
        · refine ih (i + 1) (by omega) (fun m hm' => ?_)
          by_cases e : m = i
          · subst e
            unfold impl_PermValid.okAt
            simp only [Bool.and_eq_true, decide_eq_true_eq, Bool.not_eq_true', List.contains_eq_mem, decide_eq_false_iff_not]
            refine ⟨⟨c.1, by omega⟩, fun hx => ?_⟩
            rw [List.mem_iff_getElem] at hx
            obtain ⟨j, hj, ej⟩ := hx
            have hj' : j < m := by simp at hj; omega
            have : l[j]'(by omega) = rd l m := by simpa using ej
            rw [← rd_get (show j < l.length by omega)] at this
            exact hd j hj' this
          · exact hm m (by omega)
        · obtain ⟨m, hmi, em⟩ := hd
          apply fail
          unfold impl_PermValid.okAt
          have : (l.take i).contains (rd l i) = true := by
            rw [List.contains_eq_mem, decide_eq_true_eq, ← em, rd_get (show m < l.length by omega), List.mem_iff_getElem]
            exact ⟨m, by simp; omega, by simp⟩
          simp only [this, Bool.not_true, Bool.and_false]
      · have : impl_PermValid.validB l = false := by
          apply fail
          unfold impl_PermValid.okAt
          by_cases c1 : 0 ≤ rd l (i : Int)
          · have : ¬ rd l (i : Int) < l.length := by omega
            simp [this]
          · simp [c1]
        rw [this]
        refine Ev.step (f := fun k => some false) (fun k => by
          rw [spec_PermValid.l0, if_pos (by omega), if_pos (by omega), e0, ew]
          simp only [Option.bind_some]
          rw [if_neg]
          simp only [Bool.and_eq_true, decide_eq_true_eq]
          exact c) (Ev.now _)
  unfold spec_PermValid.f
  exact outer l.length 0 (by omega) (fun m hm => absurd hm (by omega))

theorem rd_set {s : List Int} {a b : Nat} {v : Int} (h : a < s.length) : rd (s.set a v) (b : Int) = if a = b then v else rd s (b : Int) := by
  unfold rd
  simp only [Int.toNat_natCast, List.getD_eq_getElem?_getD, List.getElem?_set]
  by_cases e : a = b
  · subst e; simp [h]
  · simp [e]

theorem eq_pm' {n : Nat} {f : Nat → Nat} {l : List Int} (hl : l.length = n) (h : ∀ i, i < n → rd l (i : Int) = (f i : Int)) : l = pm n f :=
  eq_pm n f l hl fun i hi => by have := h i hi; unfold rd at this; simpa using this

theorem sameInts_loop (a b : List Int) (hl : a.length = b.length) (hb : a.length ≤ 4294967296) : ∀ d i, i + d = a.length → Ev (fun k => laws_sameInts.l0 k a b (i : Int)) (decide (a.drop i = b.drop i)) := by
  intro d
  induction d with
  | zero =>
    intro i hi
    refine Ev.step (f := fun _ => some true) (fun k => by rw [laws_sameInts.l0, if_neg (by omega)]) ?_
    rw [List.drop_of_length_le (by omega), List.drop_of_length_le (by omega)]
    exact Ev.now _
  | succ d ih =>
    intro i hi
    have ha : i < a.length := by omega
    have hb' : i < b.length := by omega
    rw [List.drop_eq_getElem_cons ha, List.drop_eq_getElem_cons hb']
    by_cases c : a[i] = b[i]
    · refine Ev.step (f := fun k => laws_sameInts.l0 k a b ((i + 1 : Nat) : Int)) (fun k => by
        rw [laws_sameInts.l0, if_pos (by omega), if_pos (by omega), if_pos (by omega), rd_get ha, rd_get hb', if_pos c, wrap_nat (by omega)]) ?_
      have e : decide (a[i] :: a.drop (i + 1) = b[i] :: b.drop (i + 1)) = decide (a.drop (i + 1) = b.drop (i + 1)) := by
        simp only [List.cons.injEq, c, true_and]
      rw [e]
      exact ih (i + 1) (by omega)
    · refine Ev.step (f := fun k => some false) (fun k => by
        rw [laws_sameInts.l0, if_pos (by omega), if_pos (by omega), if_pos (by omega), rd_get ha, rd_get hb', if_neg c]) ?_
      have : decide (a[i] :: a.drop (i + 1) = b[i] :: b.drop (i + 1)) = false := by
        simp only [List.cons.injEq, c, false_and, decide_false]
      rw [this]
      exact Ev.now _

theorem sameInts_ev {a b : List Int} (hb : a.length ≤ 4294967296) : Ev (fun k => laws_sameInts.f k a b) (decide (a = b)) := by
  unfold laws_sameInts.f
  by_cases c : a.length = b.length
  · refine Ev.pos (by omega) ?_
    exact sameInts_loop a b c hb a.length 0 (by omega)
  · have : decide (a = b) = false := by simp; intro e; exact c (by rw [e])
    rw [this]
    exact Ev.neg (by omega) (Ev.now _)

theorem mul_ev {n : Nat} {f g : Nat → Nat} (hn : n ≤ 1000) (hf : ∀ i, i < n → f i < n) : Ev (fun k => impl_mul.f k (pm n f) (pm n g)) (pm n fun i => g (f i)) := by
  have loop : ∀ d i (s : List Int), i + d = n → s.length = n → (∀ j, j < i → rd s (j : Int) = (g (f j) : Int)) → Ev (fun k => impl_mul.l0 k (pm n g) s (pm n f) (n : Int) (i : Int)) (pm n fun i => g (f i)) := by
    intro d
    induction d with
    | zero =>
      intro i s hi hs h
      refine Ev.step (f := fun _ => some s) (fun k => by rw [impl_mul.l0, if_neg (by omega)]) ?_
      rw [eq_pm' (f := fun i => g (f i)) hs (fun j hj => h j (by omega))]
      exact Ev.now _
    | succ d ih =>
      intro i s hi hs h
      have hfi := hf i (by omega)
      refine Ev.step (f := fun k => impl_mul.l0 k (pm n g) (s.set i (g (f i) : Int)) (pm n f) (n : Int) ((i + 1 : Nat) : Int)) (fun k => by
        rw [impl_mul.l0, if_pos (by omega), if_pos (by omega), if_pos (by rw [pm_length]; omega), rd_pm (by omega), if_pos (by omega), if_pos (by rw [pm_length]; omega), if_pos (by omega), wrap_nat (by omega), rd_pm hfi]; rfl) ?_
      refine ih (i + 1) _ (by omega) (by simp [hs]) (fun j hj => ?_)
      rw [rd_set (by omega)]
      by_cases e : i = j
      · rw [if_pos e, e]
      · rw [if_neg e]; exact h j (by omega)
  unfold impl_mul.f
  simp only [pm_length]
  refine Ev.pos (by omega) (Ev.pos (by omega) ?_)
  have := loop n 0 (List.replicate n 0) (by omega) (by simp) (fun j hj => absurd hj (by omega))
  simpa using this

theorem back_end {n : Nat} {f : Nat → Nat} (hf : Bij n f) {s : List Int} (hs : s.length = n) (h : ∀ j, j < n → rd s (f j : Int) = (j : Int)) : s = pm n (finv n f) := by
  refine eq_pm' hs fun y hy => ?_
  obtain ⟨h1, h2⟩ := finv_spec hf hy
  have := h _ h1
  rwa [h2] at this

theorem back_step {n : Nat} {f : Nat → Nat} (hf : Bij n f) {s : List Int} (hs : s.length = n) {i : Nat} (hi : i < n) (h : ∀ j, j < i → rd s (f j : Int) = (j : Int)) : ∀ j, j < i + 1 → rd (s.set (f i) (i : Int)) (f j : Int) = (j : Int) := by
  intro j hj
  rw [rd_set (by have := hf.1 i hi; omega)]
  by_cases e : i = j
  · subst e; rw [if_pos rfl]
  · rw [if_neg (fun d => e (hf.2 i j hi (by omega) d))]; exact h j (by omega)

theorem back_ev {n : Nat} {f : Nat → Nat} (hn : n ≤ 1000) (hf : Bij n f) : Ev (fun k => impl_back.f k (pm n f)) (pm n (finv n f)) := by
  have loop : ∀ d i (s : List Int), i + d = n → s.length = n → (∀ j, j < i → rd s (f j : Int) = (j : Int)) → Ev (fun k => impl_back.l0 k s (pm n f) (n : Int) (i : Int)) (pm n (finv n f)) := by
    intro d
    induction d with
    | zero =>
      intro i s hi hs h
      refine Ev.step (f := fun _ => some s) (fun k => by rw [impl_back.l0, if_neg (by omega)]) ?_
      rw [back_end hf hs (fun j hj => h j (by omega))]
      exact Ev.now _
    | succ d ih =>
      intro i s hi hs h
      have hfi := hf.1 i (by omega)
      refine Ev.step (f := fun k => impl_back.l0 k (s.set (f i) (i : Int)) (pm n f) (n : Int) ((i + 1 : Nat) : Int)) (fun k => by
        rw [impl_back.l0, if_pos (by omega), if_pos (by omega), if_pos (by rw [pm_length]; omega), rd_pm (by omega), if_pos (by omega), if_pos (by omega), wrap_nat (by omega)]; rfl) ?_
      exact ih (i + 1) _ (by omega) (by simp [hs]) (back_step hf hs (by omega) h)
  unfold impl_back.f
  simp only [pm_length]
  refine Ev.pos (by omega) (Ev.pos (by omega) ?_)
  have := loop n 0 (List.replicate n 0) (by omega) (by simp) (fun j hj => absurd hj (by omega))
  simpa using this

theorem l1Back_ev {n : Nat} {f : Nat → Nat} (hn : n ≤ 1000) (hf : Bij n f) : Ev (fun k => spec_l1Back.f k (pm n f)) (pm n (finv n f)) := by
  have loop : ∀ d i (s : List Int), i + d = n → s.length = n → (∀ j, j < i → rd s (f j : Int) = (j : Int)) → Ev (fun k => spec_l1Back.l0 k (pm n f) s (i : Int)) (pm n (finv n f)) := by
    intro d
    induction d with
    | zero =>
      intro i s hi hs h
      refine Ev.step (f := fun _ => some s) (fun k => by rw [spec_l1Back.l0, if_neg (by rw [pm_length]; omega)]) ?_
      rw [back_end hf hs (fun j hj => h j (by omega))]
      exact Ev.now _
    | succ d ih =>
      intro i s hi hs h
      have hfi := hf.1 i (by omega)
      refine Ev.step (f := fun k => spec_l1Back.l0 k (pm n f) (s.set (f i) (i : Int)) ((i + 1 : Nat) : Int)) (fun k => by
        rw [spec_l1Back.l0, if_pos (by rw [pm_length]; omega), if_pos (by omega), rd_pm (by omega), if_pos (by omega), if_pos (by omega), wrap_nat (by omega)]; rfl) ?_
      exact ih (i + 1) _ (by omega) (by simp [hs]) (back_step hf hs (by omega) h)
  unfold spec_l1Back.f
  simp only [pm_length]
  refine Ev.pos (by omega) (Ev.pos (by omega) ?_)
  have := loop n 0 (List.replicate n 0) (by omega) (by simp) (fun j hj => absurd hj (by omega))
  simpa using this

/-- two lists that are permutations of as many points -/
def both (a b : List Int) : Bool := impl_PermValid.validB a && impl_PermValid.validB b && decide (a.length = b.length)

theorem both_iff (a b : List Int) : both a b = true ↔ ∃ n f g, IsPerm n a f ∧ IsPerm n b g := by
  unfold both
  simp only [Bool.and_eq_true, decide_eq_true_eq, valid_iff]
  constructor
  · rintro ⟨⟨⟨f, hf⟩, g, hg⟩, e⟩
    rw [← e] at hg
    exact ⟨_, f, g, hf, hg⟩
  · rintro ⟨n, f, g, hf, hg⟩
    have e1 : a.length = n := by rw [hf.2.2.2, pm_length]
    have e2 : b.length = n := by rw [hg.2.2.2, pm_length]
    rw [e1, e2]
    exact ⟨⟨⟨f, hf⟩, g, hg⟩, rfl⟩

/-- the product, or no answer -/
noncomputable def mulR (a b : List Int) : List Int × Bool := if both a b = true then (a.map (fun x => rd b x), true) else ([], false)

theorem pm_map {n : Nat} {f g : Nat → Nat} (hf : ∀ i, i < n → f i < n) : (pm n f).map (fun x => rd (pm n g) x) = pm n fun i => g (f i) := by
  unfold pm
  rw [List.map_map]
  apply List.map_congr_left
  intro i hi
  show rd (pm n g) ((f i : Nat) : Int) = _
  rw [rd_pm (hf i (by simpa using hi))]

theorem implMul_ev (a b : List Int) : Ev (fun k => impl_PermMul.f k a b) (mulR a b) := by
  unfold impl_PermMul.f mulR
  refine Ev.bind1 (implValid_ev a) ?_
  by_cases c : both a b = true
  · rw [if_pos c]
    obtain ⟨n, f, g, hf, hg⟩ := (both_iff a b).1 c
    have c1 : impl_PermValid.validB a = true := by unfold both at c; simp only [Bool.and_eq_true] at c; exact c.1.1
    have c2 : impl_PermValid.validB b = true := by unfold both at c; simp only [Bool.and_eq_true] at c; exact c.1.2
    have c3 : a.length = b.length := by unfold both at c; simp only [Bool.and_eq_true, decide_eq_true_eq] at c; exact c.2
    refine Ev.pos c1 (Ev.bind1 (implValid_ev b) (Ev.pos c2 (Ev.pos (by omega) ?_)))
    rw [hf.2.2.2, hg.2.2.2, pm_map hf.2.2.1.1]
    exact Ev.bind1 (mul_ev (by have := hf.2.1; omega) hf.2.2.1.1) (Ev.now _)
  · rw [if_neg c]
    by_cases c1 : impl_PermValid.validB a = true
    · refine Ev.pos c1 (Ev.bind1 (implValid_ev b) ?_)
      by_cases c2 : impl_PermValid.validB b = true
      · refine Ev.pos c2 (Ev.neg (fun e => c ?_) (Ev.now _))
        unfold both
        have : a.length = b.length := by omega
        simp [c1, c2, this]
      · exact Ev.neg c2 (Ev.now _)
    · exact Ev.neg c1 (Ev.now _)

/-- the way back, or no answer -/
noncomputable def backR (a : List Int) : List Int × Bool := if impl_PermValid.validB a = true then (pm a.length (finv a.length fun i => (rd a (i : Int)).toNat), true) else ([], false)

theorem finv_congr {n : Nat} {f g : Nat → Nat} (h : ∀ i, i < n → f i = g i) : finv n f = finv n g := by
  funext y
  unfold finv
  congr 1
  have : ∀ l : List Nat, (∀ i, i ∈ l → i < n) → l.find? (fun i => f i == y) = l.find? (fun i => g i == y) := by
    intro l
    induction l with
    | nil => intro _; rfl
    | cons a l ih => intro hl; simp only [List.find?_cons]; rw [h a (hl a (by simp)), ih (fun i hi => hl i (by simp [hi]))]
  exact this _ (fun i hi => by simpa using hi)

theorem backR_perm {n : Nat} {a : List Int} {f : Nat → Nat} (h : IsPerm n a f) : backR a = (pm n (finv n f), true) := by
  have e1 : a.length = n := by rw [h.2.2.2, pm_length]
  have v : impl_PermValid.validB a = true := (valid_iff a).2 ⟨f, by rw [e1]; exact h⟩
  unfold backR
  rw [if_pos v, e1]
  congr 2
  apply finv_congr
  intro i hi
  rw [h.2.2.2, rd_pm hi]; simp

theorem specBack_ev {a : List Int} (ha : a.length ≤ 4294967296) : Ev (fun k => spec_PermBack.f k a) (backR a) := by
  unfold spec_PermBack.f
  refine Ev.bind1 (specValid_ev a ha) ?_
  by_cases c : impl_PermValid.validB a = true
  · obtain ⟨f, hf⟩ := (valid_iff a).1 c
    rw [backR_perm hf]
    refine Ev.pos c ?_
    have e := hf.2.2.2
    have : Ev (fun k => spec_l1Back.f k a) (pm a.length (finv a.length f)) := by
      have := l1Back_ev (n := a.length) (f := f) (by have := hf.2.1; omega) hf.2.2.1
      rwa [← e] at this
    exact Ev.bind1 this (Ev.now _)
  · unfold backR
    rw [if_neg c]
    exact Ev.neg c (Ev.now _)

theorem implBack_ev (a : List Int) : Ev (fun k => impl_PermBack.f k a) (backR a) := by
  unfold impl_PermBack.f
  refine Ev.bind1 (implValid_ev a) ?_
  by_cases c : impl_PermValid.validB a = true
  · obtain ⟨f, hf⟩ := (valid_iff a).1 c
    rw [backR_perm hf]
    refine Ev.pos c ?_
    have e := hf.2.2.2
    have : Ev (fun k => impl_back.f k a) (pm a.length (finv a.length f)) := by
      have := back_ev (n := a.length) (f := f) (by have := hf.2.1; omega) hf.2.2.1
      rwa [← e] at this
    exact Ev.bind1 this (Ev.now _)
  · unfold backR
    rw [if_neg c]
    exact Ev.neg c (Ev.now _)

def ints (l : List Nat) : List Int := l.map fun (x : Nat) => (x : Int)

def cycsTo (n : Nat) (f : Nat → Nat) (i : Nat) : List (List Int) := ((List.range i).filter (isMin n f)).map fun m => ints (cyc n f m)

/-- all cycles, as lists of numbers -/
def cycsL (n : Nat) (f : Nat → Nat) : List (List Int) := cycsTo n f n

theorem cycsL_length (n : Nat) (f : Nat → Nat) : (cycsL n f).length = cc n f := by simp [cycsL, cycsTo, cc]

theorem cycsTo_len (n : Nat) (f : Nat → Nat) (i : Nat) : (cycsTo n f i).length ≤ i := by
  unfold cycsTo
  rw [List.length_map]
  have := List.length_filter_le (isMin n f) (List.range i)
  simpa using this

def seenTo (n : Nat) (f : Nat → Nat) (i : Nat) (s : List Bool) : Prop := s.length = n ∧ ∀ x, x < n → (rdOf false s (x : Int) = true ↔ ∃ j, j < i ∧ orb f j x)

def seenIn (n : Nat) (f : Nat → Nat) (i k : Nat) (s : List Bool) : Prop := s.length = n ∧ ∀ x, x < n → (rdOf false s (x : Int) = true ↔ (∃ j, j < i ∧ orb f j x) ∨ ∃ m, m < k ∧ it f m i = x)

theorem rdOf_set {s : List Bool} {a b : Nat} {v : Bool} (h : a < s.length) : rdOf false (s.set a v) (b : Int) = if a = b then v else rdOf false s (b : Int) := by
  unfold rdOf
  simp only [Int.toNat_natCast, List.getD_eq_getElem?_getD, List.getElem?_set]
  by_cases e : a = b
  · subst e; simp [h]
  · simp [e]

theorem seen_start (n : Nat) (f : Nat → Nat) : seenTo n f 0 (List.replicate n false) := by
  refine ⟨by simp, fun x hx => ?_⟩
  unfold rdOf
  constructor
  · intro h; simp [List.getD_eq_getElem?_getD, hx] at h
  · rintro ⟨j, hj, _⟩; omega

theorem seen_in {n : Nat} {f : Nat → Nat} {i : Nat} {s : List Bool} (h : seenTo n f i s) : seenIn n f i 0 s :=
  ⟨h.1, fun x hx => by rw [h.2 x hx]; exact ⟨.inl, fun e => e.elim id (fun ⟨m, hm, _⟩ => absurd hm (by omega))⟩⟩

theorem seen_step {n : Nat} {f : Nat → Nat} (hf : Bij n f) {i k : Nat} (hi : i < n) {s : List Bool} (h : seenIn n f i k s) : seenIn n f i (k + 1) (s.set (it f k i) true) := by
  have hk := it_lt hf k hi
  refine ⟨by simp [h.1], fun x hx => ?_⟩
  rw [rdOf_set (by rw [h.1]; exact hk)]
  by_cases e : it f k i = x
  · rw [if_pos e]
    exact ⟨fun _ => .inr ⟨k, by omega, e⟩, fun _ => rfl⟩
  · rw [if_neg e, h.2 x hx]
    constructor
    · rintro (a | ⟨m, hm, b⟩)
      · exact .inl a
      · exact .inr ⟨m, by omega, b⟩
    · rintro (a | ⟨m, hm, b⟩)
      · exact .inl a
      · refine .inr ⟨m, ?_, b⟩
        apply Nat.lt_of_le_of_ne (by omega)
        intro d; subst d; exact e b

theorem seen_end {n : Nat} {f : Nat → Nat} (hf : Bij n f) {i : Nat} (hi : i < n) {s : List Bool} (h : seenIn n f i (per n f i) s) : seenTo n f (i + 1) s := by
  refine ⟨h.1, fun x hx => ?_⟩
  rw [h.2 x hx]
  constructor
  · rintro (⟨j, hj, o⟩ | ⟨m, hm, e⟩)
    · exact ⟨j, by omega, o⟩
    · exact ⟨i, by omega, m, e⟩
  · rintro ⟨j, hj, o⟩
    by_cases e : j = i
    · subst e
      obtain ⟨m, em⟩ := o
      exact .inr ⟨m % per n f j, Nat.mod_lt _ (per_spec hf hi).1, by rw [← it_mod_per hf hi]; exact em⟩
    · exact .inl ⟨j, by omega, o⟩

theorem seen_skip {n : Nat} {f : Nat → Nat} (hf : Bij n f) {i : Nat} (hi : i < n) {s : List Bool} (h : seenTo n f i s) (hs : rdOf false s (i : Int) = true) : seenTo n f (i + 1) s := by
  refine ⟨h.1, fun x hx => ?_⟩
  rw [h.2 x hx]
  obtain ⟨j, hj, o⟩ := (h.2 i hi).1 hs
  constructor
  · rintro ⟨j, hj, o⟩; exact ⟨j, by omega, o⟩
  · rintro ⟨j', hj', o'⟩
    by_cases e : j' = i
    · subst e; exact ⟨j, hj, orb_trans o o'⟩
    · exact ⟨j', by omega, o'⟩

theorem seen_min {n : Nat} {f : Nat → Nat} (hf : Bij n f) {i : Nat} (hi : i < n) {s : List Bool} (h : seenTo n f i s) : rdOf false s (i : Int) = !isMin n f i := by
  rw [Bool.eq_iff_iff, h.2 i hi, Bool.not_eq_true']
  constructor
  · rintro ⟨j, hj, o⟩
    apply Bool.eq_false_iff.2
    intro m
    exact (isMin_iff' hf hi).1 m j hj o
  · intro m
    apply Classical.byContradiction
    intro c
    have : isMin n f i = true := (isMin_iff' hf hi).2 fun j hj o => c ⟨j, hj, o⟩
    rw [m] at this; cases this

theorem seen_new {n : Nat} {f : Nat → Nat} (hf : Bij n f) {i k : Nat} (hi : i < n) {s : List Bool} (h : seenIn n f i k s) (hm : isMin n f i = true) (hk : k < per n f i) : rdOf false s (it f k i : Int) = false := by
  apply Bool.eq_false_iff.2
  intro c
  rcases (h.2 _ (it_lt hf k hi)).1 c with ⟨j, hj, o⟩ | ⟨m, hmk, e⟩
  · exact (isMin_iff' hf hi).1 hm j hj (orb_trans o (orb_symm hf hi ⟨k, rfl⟩))
  · have := it_inj_per hf hi (by omega) hk e
    omega

theorem seen_old {n : Nat} {f : Nat → Nat} (hf : Bij n f) {i : Nat} (hi : i < n) {s : List Bool} (h : seenIn n f i (per n f i) s) : rdOf false s (it f (per n f i) i : Int) = true := by
  have p := per_spec hf hi
  rw [p.2.2.1]
  exact (h.2 i hi).2 (.inr ⟨0, p.1, rfl⟩)

theorem cycsTo_succ (n : Nat) (f : Nat → Nat) (i : Nat) : cycsTo n f (i + 1) = if isMin n f i = true then cycsTo n f i ++ [ints (cyc n f i)] else cycsTo n f i := by
  unfold cycsTo
  rw [List.range_succ, List.filter_append, List.map_append]
  by_cases c : isMin n f i = true
  · simp [c]
  · simp [c]

def cycTo (f : Nat → Nat) (i k : Nat) : List Int := ints ((List.range k).map fun m => it f m i)

theorem cycTo_succ (f : Nat → Nat) (i k : Nat) : cycTo f i (k + 1) = cycTo f i k ++ [(it f k i : Int)] := by simp [cycTo, ints, List.range_succ]

theorem cycTo_len (f : Nat → Nat) (i k : Nat) : (cycTo f i k).length = k := by simp [cycTo, ints]

theorem implCycles_ev {n : Nat} {f : Nat → Nat} (hn : n ≤ 1000) (hf : Bij n f) : Ev (fun k => impl_cyclesOf.f k (pm n f)) (cycsL n f) := by
  have outer : ∀ d i (s : List Bool), i + d = n → seenTo n f i s → Ev (fun k => impl_cyclesOf.l0 k (pm n f) (cycsTo n f i) s (n : Int) (i : Int)) (cycsL n f) := by
    intro d
    induction d with
    | zero =>
      intro i s hi hs
      have e : i = n := by omega
      subst e
      exact Ev.step (f := fun _ => some (cycsTo i f i)) (fun k => by rw [impl_cyclesOf.l0, if_neg (by omega)]) (Ev.now _)
    | succ d ih =>
      intro i s hi hs
      have hin : i < n := by omega
      have cl := cycsTo_len n f i
      refine Ev.step (f := fun k => impl_cyclesOf.l1 k (pm n f) (cycsTo n f i) s [] (i : Int) (n : Int) (i : Int)) (fun k => by rw [impl_cyclesOf.l0, if_pos (by omega)]) ?_
      by_cases hm : isMin n f i = true
      · have inner : ∀ e k (s : List Bool), k + e = per n f i → seenIn n f i k s → Ev (fun q => impl_cyclesOf.l1 q (pm n f) (cycsTo n f i) s (cycTo f i k) (it f k i : Int) (n : Int) (i : Int)) (cycsL n f) := by
          intro e
          induction e with
          | zero =>
            intro k s hk hs
            have ek : k = per n f i := by omega
            subst ek
            have p := per_spec hf hin
            have ho := seen_old hf hin hs
            refine Ev.step (f := fun q => impl_cyclesOf.l0 q (pm n f) (cycsTo n f (i + 1)) s (n : Int) ((i + 1 : Nat) : Int)) (fun q => by
              rw [impl_cyclesOf.l1, if_pos (by omega), if_pos (by rw [hs.1]; have := it_lt hf (per n f i) hin; omega), if_pos ho, if_pos (by rw [cycTo_len]; omega), if_pos (by omega), wrap_nat (by omega), cycsTo_succ, if_pos hm]; rfl) ?_
            exact ih (i + 1) s (by omega) (seen_end hf hin hs)
          | succ e ihe =>
            intro k s hk hs
            have hkn := it_lt hf k hin
            have p := per_spec hf hin
            have hnew := seen_new hf hin hs hm (by omega)
            refine Ev.step (f := fun q => impl_cyclesOf.l1 q (pm n f) (cycsTo n f i) (s.set (it f k i) true) (cycTo f i (k + 1)) (it f (k + 1) i : Int) (n : Int) (i : Int)) (fun q => by
              rw [impl_cyclesOf.l1, if_pos (by omega), if_pos (by rw [hs.1]; omega), if_neg (by rw [hnew]; simp), if_pos (by rw [cycTo_len]; omega), if_pos (by rw [pm_length]; omega), rd_pm hkn, cycTo_succ]; rfl) ?_
            exact ihe (k + 1) _ (by omega) (seen_step hf hin hs)
        exact inner (per n f i) 0 s (by omega) (seen_in hs)
      · have ht : rdOf false s (i : Int) = true := by rw [seen_min hf hin hs]; simp [hm]
        refine Ev.step (f := fun q => impl_cyclesOf.l0 q (pm n f) (cycsTo n f (i + 1)) s (n : Int) ((i + 1 : Nat) : Int)) (fun q => by
          rw [impl_cyclesOf.l1, if_pos (by omega), if_pos (by rw [hs.1]; omega), if_pos ht, if_neg (by simp), wrap_nat (by omega), cycsTo_succ, if_neg hm]) ?_
        exact ih (i + 1) s (by omega) (seen_skip hf hin hs ht)
  unfold impl_cyclesOf.f
  simp only [pm_length]
  refine Ev.pos (by omega) (Ev.pos (by omega) ?_)
  have := outer n 0 _ (by omega) (seen_start n f)
  simpa [cycsTo] using this

theorem isPerm_len {n : Nat} {a : List Int} {f : Nat → Nat} (h : IsPerm n a f) : a.length = n := by rw [h.2.2.2, pm_length]

theorem isPerm_valid {n : Nat} {a : List Int} {f : Nat → Nat} (h : IsPerm n a f) : impl_PermValid.validB a = true :=
  (valid_iff a).2 ⟨f, by rw [isPerm_len h]; exact h⟩

theorem ints_len (l : List Nat) : (ints l).length = l.length := by simp [ints]

theorem xor_i64_nat (a b : Nat) (ha : a < 9223372036854775808) (hb : b < 9223372036854775808) : Go.bits .xor .i64 (a : Int) (b : Int) = ((a ^^^ b : Nat) : Int) := by
  have hx : a ^^^ b < 2 ^ 63 := Nat.xor_lt_two_pow (by omega) (by omega)
  have h1 : (BitVec.ofInt 64 (a : Int)).toNat = a := by
    rw [BitVec.ofInt_natCast, BitVec.toNat_ofNat]; exact Nat.mod_eq_of_lt (by omega)
  have h2 : (BitVec.ofInt 64 (b : Int)).toNat = b := by
    rw [BitVec.ofInt_natCast, BitVec.toNat_ofNat]; exact Nat.mod_eq_of_lt (by omega)
  show IntKind.i64.wrap ((BitVec.ofInt 64 (a : Int) ^^^ BitVec.ofInt 64 (b : Int)).toNat : Int) = _
  rw [BitVec.toNat_xor, h1, h2]
  simp [IntKind.wrap, IntKind.bits, IntKind.signed]
  omega

theorem xor_i64_pos {a b : Int} (h1 : 0 ≤ a) (h2 : a < 9223372036854775808) (h3 : 0 ≤ b) (h4 : b < 9223372036854775808) : 0 ≤ Go.bits .xor .i64 a b := by
  obtain ⟨m, rfl⟩ : ∃ m : Nat, a = m := ⟨a.toNat, by omega⟩
  obtain ⟨k, rfl⟩ : ∃ k : Nat, b = k := ⟨b.toNat, by omega⟩
  rw [xor_i64_nat _ _ (by omega) (by omega)]
  omega

/-- a code's bytes -/
def Bytes (s : List Int) : Prop := s.length ≤ 2000 ∧ ∀ x, x ∈ s → 0 ≤ x ∧ x ≤ 255

theorem Bytes.rd {s : List Int} (h : Bytes s) (i : Int) : 0 ≤ rd s i ∧ rd s i ≤ 255 := by
  unfold Go.Proofs.YteffimfifgnleaaW.PrintWords.rd
  rw [List.getD_eq_getElem?_getD]
  cases e : s[i.toNat]? with
  | none => simp
  | some x => exact h.2 x (List.mem_of_getElem? e)

theorem tmod_in {a n : Int} (ha : 0 ≤ a) (hn : 1 ≤ n) : 0 ≤ Int.tmod a n ∧ Int.tmod a n < n := by
  rw [Int.tmod_eq_emod_of_nonneg ha]
  exact ⟨Int.emod_nonneg _ (by omega), Int.emod_lt_of_pos _ (by omega)⟩

theorem pick_ev {s : List Int} (hs : Bytes s) {p n : Int} (h0 : 0 ≤ p) (h1 : p ≤ 1000000000) (hn : n ≤ 1000000000) :
    ∃ v, Ev (fun k => spec_l6Rd_pick.f k s p n) (v, p + 1) ∧ 0 ≤ v ∧ v ≤ 1000000000 ∧ (1 ≤ n → v < n) := by
  have w1 : wrap64 (p + 1) = p + 1 := wrap_in (by omega) (by omega)
  have w2 : wrap64 (p + 1 - 1) = p := by rw [wrap_in (by omega) (by omega)]; omega
  unfold spec_l6Rd_pick.f
  by_cases c : n < 1
  · refine ⟨0, Ev.pos c ?_, by omega, by omega, fun e => by omega⟩
    rw [w1]
    exact Ev.step (f := fun _ => some (0, p + 1)) (fun k => by rw [spec_l6Rd_pick.j0, if_pos rfl]) (Ev.now _)
  · by_cases d : s.length = 0
    · refine ⟨0, Ev.neg c ?_, by omega, by omega, fun e => by omega⟩
      rw [w1]
      have e : ((s.length : Int) == 0) = true := by simp [d]
      rw [e]
      exact Ev.step (f := fun _ => some (0, p + 1)) (fun k => by rw [spec_l6Rd_pick.j0, if_pos rfl]) (Ev.now _)
    · have e : ((s.length : Int) == 0) = false := by
        exact beq_eq_false_iff_ne.mpr (by omega)
      have hl := hs.1
      by_cases f : p < s.length
      · have r := hs.rd p
        have t := tmod_in (a := rd s p) (n := n) r.1 (by omega)
        refine ⟨Int.tmod (rd s p) n, Ev.neg c ?_, t.1, by omega, fun _ => t.2⟩
        rw [w1, e]
        refine Ev.step (f := fun _ => some (Int.tmod (rd s p) n, p + 1)) (fun k => by
          rw [spec_l6Rd_pick.j0, w2, if_neg (by simp), if_pos f, if_pos h0, if_neg (by omega), wrap_in (by omega) (by omega)]) (Ev.now _)
      · have m1 := tmod_in (a := p) (n := (s.length : Int)) h0 (by omega)
        have w3 : wrap64 (p * 7) = p * 7 := wrap_in (by omega) (by omega)
        have w4 : wrap64 (p * 7 + 3) = p * 7 + 3 := wrap_in (by omega) (by omega)
        have m2 := tmod_in (a := p * 7 + 3) (n := (s.length : Int)) (by omega) (by omega)
        obtain ⟨A, hA⟩ : ∃ A, A = rd s (Int.tmod p (s.length : Int)) := ⟨_, rfl⟩
        obtain ⟨B, hB⟩ : ∃ B, B = rd s (Int.tmod (p * 7 + 3) (s.length : Int)) := ⟨_, rfl⟩
        have a1 : 0 ≤ A ∧ A ≤ 255 := by rw [hA]; exact hs.rd _
        have b1 : 0 ≤ B ∧ B ≤ 255 := by rw [hB]; exact hs.rd _
        obtain ⟨D, hD⟩ : ∃ D, D = Int.tdiv p (s.length : Int) := ⟨_, rfl⟩
        have d1 : 0 ≤ D ∧ D ≤ p := by
          rw [hD, Int.tdiv_eq_ediv_of_nonneg h0]
          exact ⟨Int.ediv_nonneg h0 (by omega), Int.ediv_le_self _ h0⟩
        obtain ⟨X, hX⟩ : ∃ X, X = A * 131 + B * 1117 + p * 29 + D * 53 := ⟨_, rfl⟩
        have x1 : 0 ≤ X ∧ X ≤ 100000000000 := by omega
        have y1 : 0 ≤ Int.tdiv X 64 ∧ Int.tdiv X 64 ≤ X := by
          rw [Int.tdiv_eq_ediv_of_nonneg x1.1]; omega
        have z := xor_i64_pos (a := X) (b := Int.tdiv X 64) x1.1 (by omega) y1.1 (by omega)
        have t := tmod_in (n := n) z (by omega)
        refine ⟨Int.tmod (Go.bits .xor .i64 X (Int.tdiv X 64)) n, Ev.neg c ?_, t.1, by omega, fun _ => t.2⟩
        rw [w1, e]
        refine Ev.step (f := fun _ => some (Int.tmod (Go.bits .xor .i64 X (Int.tdiv X 64)) n, p + 1)) (fun k => by
          rw [spec_l6Rd_pick.j0, w2, if_neg (by simp), if_neg f, if_neg (by omega), if_pos m1.1, if_pos m1.2, w3, w4, if_pos m2.1, if_pos m2.2, if_neg (by omega), ← hA, ← hB, ← hD]
          rw [wrap_in (n := A) (by omega) (by omega), wrap_in (n := B) (by omega) (by omega), wrap_in (n := A * 131) (by omega) (by omega), wrap_in (n := B * 1117) (by omega) (by omega), wrap_in (n := A * 131 + B * 1117) (by omega) (by omega), wrap_in (n := p * 29) (by omega) (by omega), wrap_in (n := A * 131 + B * 1117 + p * 29) (by omega) (by omega), wrap_in (n := D) (by omega) (by omega), wrap_in (n := D * 53) (by omega) (by omega), wrap_in (n := A * 131 + B * 1117 + p * 29 + D * 53) (by omega) (by omega), ← hX, wrap_in (n := Int.tdiv X 64) (by omega) (by omega)]) (Ev.now _)

theorem open_ev {l : List Int} (hw : ∀ x ∈ l, (Lit.int .u8 x).wf = true) : ∃ s, Bytes s ∧ Ev (fun _ => spec_l6Open.f l) (s, 0) := by
  have hb : ∀ x, x ∈ l → 0 ≤ x ∧ x ≤ 255 := by
    intro x hx
    have := hw x hx
    simp [Lit.wf, IntKind.min, IntKind.max, IntKind.signed, IntKind.bits] at this
    omega
  unfold spec_l6Open.f
  by_cases c : (l.length : Int) > 2000
  · refine ⟨l.take 2000, ⟨by simp; omega, fun x hx => hb x (List.mem_of_mem_take hx)⟩, Ev.pos c (Ev.pos (by omega) (Ev.now _))⟩
  · exact ⟨l, ⟨by omega, hb⟩, Ev.neg c (Ev.now _)⟩

/-- f with the point n put into the cycle ahead of k -/
def ins (n k : Nat) (f : Nat → Nat) (x : Nat) : Nat := if x = n then f k else if x = k then n else f x

theorem ins_bij {n k : Nat} {f : Nat → Nat} (hf : Bij n f) (hk : k < n) : Bij (n + 1) (ins n k f) := by
  constructor
  · intro i hi
    unfold ins
    split
    · have := hf.1 k hk; omega
    · split
      · omega
      · have := hf.1 i (by omega); omega
  · intro i j hi hj e
    unfold ins at e
    have bi : i ≠ n → f i < n := fun h => hf.1 i (by omega)
    have bj : j ≠ n → f j < n := fun h => hf.1 j (by omega)
    have bk := hf.1 k hk
    by_cases a1 : i = n <;> by_cases a2 : j = n
    · omega
    · rw [if_pos a1, if_neg a2] at e
      by_cases a3 : j = k
      · rw [if_pos a3] at e; omega
      · rw [if_neg a3] at e; exact absurd (hf.2 k j hk (by omega) e) (fun h => a3 h.symm)
    · rw [if_neg a1, if_pos a2] at e
      by_cases a3 : i = k
      · rw [if_pos a3] at e; omega
      · rw [if_neg a3] at e; exact absurd (hf.2 i k (by omega) hk e) a3
    · rw [if_neg a1, if_neg a2] at e
      by_cases a3 : i = k <;> by_cases a4 : j = k
      · omega
      · rw [if_pos a3, if_neg a4] at e; have := bj a2; omega
      · rw [if_neg a3, if_pos a4] at e; have := bi a1; omega
      · rw [if_neg a3, if_neg a4] at e; exact hf.2 i j (by omega) (by omega) e

theorem add_bij {n : Nat} {f : Nat → Nat} (hf : Bij n f) : Bij (n + 1) (fun x => if x = n then n else f x) := by
  constructor
  · intro i hi
    show (if i = n then n else f i) < n + 1
    split
    · omega
    · have := hf.1 i (by omega); omega
  · intro i j hi hj e
    have e' : (if i = n then n else f i) = (if j = n then n else f j) := e
    by_cases a1 : i = n <;> by_cases a2 : j = n
    · omega
    · rw [if_pos a1, if_neg a2] at e'; have := hf.1 j (by omega); omega
    · rw [if_neg a1, if_pos a2] at e'; have := hf.1 i (by omega); omega
    · rw [if_neg a1, if_neg a2] at e'; exact hf.2 i j (by omega) (by omega) e'

theorem perm_ev {s : List Int} (hs : Bytes s) {p : Int} (h0 : 0 ≤ p) (h1 : p ≤ 1000000) {n : Nat} (hn : n ≤ 1000) : ∃ f, Bij n f ∧ Ev (fun k => spec_l91Perm.f k s p (n : Int)) (pm n f, p + n) := by
  have loop : ∀ d i (f : Nat → Nat), i + d = n → Bij i f → ∃ g, Bij n g ∧ Ev (fun k => spec_l91Perm.l0 k (n : Int) (pm i f) (i : Int) s (p + i)) (pm n g, p + n) := by
    intro d
    induction d with
    | zero =>
      intro i f hi hf
      have e : i = n := by omega
      subst e
      exact ⟨f, hf, Ev.step (f := fun _ => some (pm i f, p + i)) (fun k => by rw [spec_l91Perm.l0, if_neg (by omega)]) (Ev.now _)⟩
    | succ d ih =>
      intro i f hi hf
      obtain ⟨v, ev, v0, _, v1⟩ := pick_ev hs (p := p + i) (n := (i : Int) + 1) (by omega) (by omega) (by omega)
      have v2 := v1 (by omega)
      obtain ⟨k, rfl⟩ : ∃ k : Nat, v = k := ⟨v.toNat, by omega⟩
      have ep : p + (i : Int) + 1 = p + ((i + 1 : Nat) : Int) := by omega
      by_cases c : k = i
      · subst c
        obtain ⟨g, hg, eg⟩ := ih (k + 1) _ (by omega) (add_bij hf)
        refine ⟨g, hg, ?_⟩
        refine Ev.step (fun q => by rw [spec_l91Perm.l0]) (Ev.pos (by omega) ?_)
        rw [wrap_nat (by omega)]
        refine Ev.bind1 ev (Ev.pos rfl (Ev.pos (by rw [pm_length]; omega) ?_))
        have es : pm k f ++ [(k : Int)] = pm (k + 1) (fun x => if x = k then k else f x) := by
          unfold pm
          rw [List.range_succ, List.map_append]
          congr 1
          · apply List.map_congr_left
            intro x hx
            have : x < k := by simpa using hx
            show (f x : Int) = ((if x = k then k else f x : Nat) : Int)
            rw [if_neg (by omega)]
          · simp
        rw [es]
        show Ev (fun q => spec_l91Perm.l0 q _ _ _ s (p + (k : Int) + 1)) _
        rw [ep]
        exact eg
      · have hk : k < i := by omega
        obtain ⟨g, hg, eg⟩ := ih (i + 1) _ (by omega) (ins_bij hf hk)
        refine ⟨g, hg, ?_⟩
        refine Ev.step (fun q => by rw [spec_l91Perm.l0]) (Ev.pos (by omega) ?_)
        rw [wrap_nat (by omega)]
        refine Ev.bind1 ev (Ev.neg (by show ¬ (k : Int) = i; omega) (Ev.pos (by show 0 ≤ (k : Int); omega) (Ev.pos (by rw [pm_length]; show (k : Int) < i; omega) (Ev.pos (by rw [pm_length]; omega) ?_))))
        refine Ev.some1 (Ev.pos (by simp [pm_length]; omega) ?_)
        have es : (pm i f ++ [rd (pm i f) (k : Int)]).set ((k : Int)).toNat (i : Int) = pm (i + 1) (ins i k f) := by
          refine eq_pm' (by simp [pm_length]) fun x hx => ?_
          rw [Int.toNat_natCast, rd_set (by simp [pm_length]; omega), rd_pm hk]
          unfold ins
          by_cases a1 : k = x
          · rw [if_pos a1, if_neg (by omega), if_pos a1.symm]
          · rw [if_neg a1]
            by_cases a2 : x = i
            · rw [if_pos a2, a2]
              have : i < (pm i f ++ [(f k : Int)]).length := by simp [pm_length]
              rw [rd_get this]
              simp [pm_length]
            · rw [if_neg a2, if_neg (fun e => a1 e.symm)]
              have hx' : x < i := by omega
              have : x < (pm i f ++ [(f k : Int)]).length := by simp [pm_length]; omega
              rw [rd_get this, List.getElem_append_left (by rw [pm_length]; exact hx'), ← rd_get (by rw [pm_length]; exact hx'), rd_pm hx']
        show Ev (fun q => spec_l91Perm.l0 q _ ((pm i f ++ [rd (pm i f) (k : Int)]).set ((k : Int)).toNat (i : Int)) _ s (p + (i : Int) + 1)) _
        rw [es, ep]
        exact eg
  obtain ⟨g, hg, eg⟩ := loop n 0 (fun x => x) (by omega) (id_bij 0)
  refine ⟨g, hg, ?_⟩
  unfold spec_l91Perm.f
  have : p + ((0 : Nat) : Int) = p := by omega
  rw [this] at eg
  exact eg

/-- some list of numbers, seldom no permutation -/
theorem some_ev {s : List Int} (hs : Bytes s) {p : Int} (h0 : 0 ≤ p) (h1 : p ≤ 100000) {n : Int} (hn : 1 ≤ n) (hn2 : n ≤ 20) : ∃ l p', Ev (fun k => spec_l91Some.f k s p n) (l, p') ∧ l.length ≤ 30 ∧ p ≤ p' ∧ p' ≤ p + 100 := by
  obtain ⟨v, ev, v0, _, v1⟩ := pick_ev hs (p := p) (n := n) h0 (by omega) (by omega)
  have v2 := v1 hn
  obtain ⟨m, rfl⟩ : ∃ m : Nat, v = m := ⟨v.toNat, by omega⟩
  obtain ⟨f, hf, ef⟩ := perm_ev hs (p := p + 1) (n := 1 + m) (by omega) (by omega) (by omega)
  obtain ⟨v', ev', v0', _, v1'⟩ := pick_ev hs (p := p + 1 + ((1 + m : Nat) : Int)) (n := 40) (by omega) (by omega) (by omega)
  have ew : wrap64 (1 + (m : Int)) = ((1 + m : Nat) : Int) := by rw [wrap_in (by omega) (by omega)]; omega
  unfold spec_l91Some.f
  have hl : (pm (1 + m) f).length = 1 + m := pm_length _ _
  by_cases c0 : v' = 0
  · obtain ⟨v'', ev'', v0'', _, v1''⟩ := pick_ev hs (p := p + 1 + ((1 + m : Nat) : Int) + 1) (n := 2) (by omega) (by omega) (by omega)
    have := v1'' (by omega)
    refine ⟨(pm (1 + m) f).set 0 (rd [(-1), ((pm (1 + m) f).length : Int)] v''), p + 1 + ((1 + m : Nat) : Int) + 1 + 1, ?_, by simp [pm_length]; omega, by omega, by omega⟩
    refine Ev.bind1 ev ?_
    show Ev (fun n_1 => (spec_l91Perm.f n_1 s (p + 1) (wrap64 (1 + (m : Int)))).bind _) _
    rw [ew]
    exact Ev.bind1 ef (Ev.bind1 ev' (Ev.pos c0 (Ev.some1 (Ev.bind1 ev'' (Ev.pos v0'' (Ev.pos (by simp; omega) (Ev.pos (by simp [pm_length]; omega) (Ev.now _))))))))
  · by_cases c1 : v' = 1
    · refine ⟨[], p + 1 + ((1 + m : Nat) : Int) + 1, ?_, by simp, by omega, by omega⟩
      refine Ev.bind1 ev ?_
      show Ev (fun n_1 => (spec_l91Perm.f n_1 s (p + 1) (wrap64 (1 + (m : Int)))).bind _) _
      rw [ew]
      exact Ev.bind1 ef (Ev.bind1 ev' (Ev.neg c0 (Ev.pos c1 (Ev.now _))))
    · by_cases c2 : v' = 2
      · refine ⟨pm (1 + m) f ++ [rd (pm (1 + m) f) 0], p + 1 + ((1 + m : Nat) : Int) + 1, ?_, by simp [pm_length]; omega, by omega, by omega⟩
        refine Ev.bind1 ev ?_
        show Ev (fun n_1 => (spec_l91Perm.f n_1 s (p + 1) (wrap64 (1 + (m : Int)))).bind _) _
        rw [ew]
        exact Ev.bind1 ef (Ev.bind1 ev' (Ev.neg c0 (Ev.neg c1 (Ev.pos c2 (Ev.pos (by simp [pm_length]; omega) (Ev.pos (by simp [pm_length]; omega) (Ev.now _)))))))
      · refine ⟨pm (1 + m) f, p + 1 + ((1 + m : Nat) : Int) + 1, ?_, by simp [pm_length]; omega, by omega, by omega⟩
        refine Ev.bind1 ev ?_
        show Ev (fun n_1 => (spec_l91Perm.f n_1 s (p + 1) (wrap64 (1 + (m : Int)))).bind _) _
        rw [ew]
        exact Ev.bind1 ef (Ev.bind1 ev' (Ev.neg c0 (Ev.neg c1 (Ev.neg c2 (Ev.now _)))))

theorem rd_mid (A : List Int) (x : Int) (T : List Int) : rd (A ++ x :: T) (A.length : Int) = x := by
  unfold rd; simp [List.getD_eq_getElem?_getD]

theorem set_mid (A : List Int) (x v : Int) (T : List Int) : (A ++ x :: T).set A.length v = A ++ v :: T := by simp

theorem set_two (A : List Int) (y x u v : Int) (T : List Int) : ((A ++ y :: x :: T).set (A.length + 1) u).set A.length v = A ++ v :: u :: T := by
  have h := set_mid (A ++ [y]) x u T
  simp only [List.append_assoc, List.singleton_append, List.length_append, List.length_singleton] at h
  rw [h, set_mid]

theorem less_ev (x y : Int) : Ev (fun _ => cmp_Less_int.f x y) (decide (x < y)) := by
  unfold cmp_Less_int.f cmp_isNaN_int.f
  refine Ev.some1 (Ev.neg (by simp) (Ev.now _))

def Asc (l : List Int) : Prop := l.Pairwise (· ≤ ·)

theorem sort_inner {a2 i : Int} {T : List Int} {l : List Int} (hl : l.length ≤ 1000) (cont : ∀ C, Asc C → C.length = i.toNat + 1 → (C ++ T).Perm l → ∃ r, Ev (fun k => slices_insertionSortOrdered_int.l0 k (C ++ T) 0 a2 (wrap64 (i + 1))) r ∧ Asc r ∧ r.Perm l) :
    ∀ n (A : List Int), A.length = n → ∀ x B, Asc (A ++ B) → (∀ b ∈ B, x ≤ b) → A.length + B.length = i.toNat → (A ++ x :: B ++ T).Perm l →
      ∃ r, Ev (fun k => slices_insertionSortOrdered_int.l1 k (A ++ x :: B ++ T) 0 a2 i (A.length : Int)) r ∧ Asc r ∧ r.Perm l := by
  intro n
  induction n with
  | zero =>
    intro A hA x B hs hx hi hp
    obtain rfl : A = [] := List.length_eq_zero_iff.1 hA
    obtain ⟨r, er, hr⟩ := cont (x :: B) (List.pairwise_cons.2 ⟨hx, by unfold Asc at hs; simpa using hs⟩) (by simp at hi; simp; omega) (by simpa using hp)
    exact ⟨r, Ev.step (fun k => by rw [slices_insertionSortOrdered_int.l1]) (Ev.neg (by simp) (by simpa using er)), hr⟩
  | succ n ih =>
    intro A hA x B hs hx hi hp
    obtain ⟨A', y, rfl⟩ : ∃ A' y, A = A' ++ [y] := by
      rcases List.eq_nil_or_concat A with h | ⟨A', y, h⟩
      · rw [h] at hA; simp at hA
      · exact ⟨A', y, by rw [h]; simp⟩
    have hA' : A'.length = n := by simpa using hA
    have hlen : (A' ++ [y] ++ x :: B ++ T).length ≤ 1000 := by rw [hp.length_eq]; exact hl
    have hln : A'.length + 2 + B.length + T.length ≤ 1000 := by simp at hlen; omega
    have w1 : wrap64 (((A' ++ [y]).length : Int) - 1) = (A'.length : Int) := by
      rw [wrap_in (by simp <;> omega) (by simp <;> omega)]; simp
    have e0 : A' ++ [y] ++ x :: B ++ T = A' ++ y :: x :: (B ++ T) := by simp
    have r1 : rd (A' ++ [y] ++ x :: B ++ T) ((A' ++ [y]).length : Int) = x := by
      have := rd_mid (A' ++ [y]) x (B ++ T)
      simpa using this
    have r0 : rd (A' ++ [y] ++ x :: B ++ T) (A'.length : Int) = y := by rw [e0]; exact rd_mid A' y _
    have st : ∀ Res, Ev (fun k => if decide (x < y) = true then slices_insertionSortOrdered_int.l1 k (((A' ++ [y] ++ x :: B ++ T).set ((A' ++ [y]).length : Int).toNat y).set (A'.length : Int).toNat x) 0 a2 i (A'.length : Int) else slices_insertionSortOrdered_int.l0 k (A' ++ [y] ++ x :: B ++ T) 0 a2 (wrap64 (i + 1))) Res → Ev (fun k => slices_insertionSortOrdered_int.l1 k (A' ++ [y] ++ x :: B ++ T) 0 a2 i ((A' ++ [y]).length : Int)) Res := by
      intro Res h
      refine Ev.step (fun k => by rw [slices_insertionSortOrdered_int.l1, w1, r1, r0]) ?_
      refine Ev.pos (by simp <;> omega) (Ev.pos (by omega) (Ev.pos (by simp <;> omega) (Ev.pos (by omega) (Ev.pos (by simp <;> omega) ?_))))
      exact Ev.bind1 (less_ev x y) h
    by_cases c : x < y
    · have e1 : ((A' ++ [y] ++ x :: B ++ T).set ((A' ++ [y]).length : Int).toNat y).set (A'.length : Int).toNat x = A' ++ x :: (y :: B) ++ T := by
        rw [e0, show ((A' ++ [y]).length : Int).toNat = A'.length + 1 by simp, Int.toNat_natCast, set_two]
        simp
      have hp' : (A' ++ x :: (y :: B) ++ T).Perm l := by
        refine List.Perm.trans ?_ hp
        rw [e0]
        have : A' ++ x :: (y :: B) ++ T = A' ++ (x :: y :: (B ++ T)) := by simp
        rw [this]
        exact List.Perm.append_left A' (List.Perm.swap y x _)
      obtain ⟨r, er, hr⟩ := ih A' hA' x (y :: B) (by simpa using hs) (by
        intro b hb
        rcases List.mem_cons.1 hb with rfl | hb
        · omega
        · exact hx b hb) (by simp at hi ⊢; omega) hp'
      refine ⟨r, st r (Ev.pos (decide_eq_true c) ?_), hr⟩
      rw [e1]; exact er
    · have hs2 : Asc (A' ++ [y] ++ x :: B) := by
        unfold Asc at hs ⊢
        rw [List.pairwise_append] at hs ⊢
        obtain ⟨p1, p2, p3⟩ := hs
        refine ⟨p1, List.pairwise_cons.2 ⟨hx, p2⟩, ?_⟩
        intro a ha b hb
        rcases List.mem_cons.1 hb with rfl | hb
        · have hay : a ≤ y := by
            rw [List.pairwise_append] at p1
            rcases List.mem_append.1 ha with h | h
            · exact p1.2.2 a h y (by simp)
            · simp at h; omega
          omega
        · exact p3 a ha b hb
      obtain ⟨r, er, hr⟩ := cont (A' ++ [y] ++ x :: B) hs2 (by simp at hi ⊢; omega) hp
      exact ⟨r, st r (Ev.neg (by simpa using c) er), hr⟩

theorem sort_outer {l : List Int} (hl : l.length ≤ 1000) : ∀ d i, i + d = l.length → 1 ≤ i → ∀ C T : List Int, C.length = i → Asc C → (C ++ T).Perm l →
    ∃ r, Ev (fun k => slices_insertionSortOrdered_int.l0 k (C ++ T) 0 (l.length : Int) (i : Int)) r ∧ Asc r ∧ r.Perm l := by
  intro d
  induction d with
  | zero =>
    intro i hi h1 C T hC hs hp
    have hT : T = [] := by
      have := hp.length_eq
      rw [List.length_append] at this
      exact List.length_eq_zero_iff.1 (by omega)
    subst hT
    refine ⟨C ++ [], Ev.step (f := fun _ => some (C ++ [])) (fun k => by rw [slices_insertionSortOrdered_int.l0, if_neg (by omega)]) (Ev.now _), by simpa using hs, hp⟩
  | succ d ih =>
    intro i hi h1 C T hC hs hp
    obtain ⟨x, T, rfl⟩ : ∃ x T', T = x :: T' := by
      cases T with
      | nil => have := hp.length_eq; rw [List.length_append] at this; simp at this; omega
      | cons x T' => exact ⟨x, T', rfl⟩
    obtain ⟨r, er, hr⟩ := sort_inner (a2 := (l.length : Int)) (i := (i : Int)) (T := T) hl (fun D hD hl' hp' => by
      have := ih (i + 1) (by omega) (by omega) D T (by simpa using hl') hD hp'
      rw [wrap_nat (by omega)]
      exact this) C.length C rfl x [] (by simpa using hs) (by simp) (by simp; omega) (by simpa using hp)
    refine ⟨r, Ev.step (fun k => by rw [slices_insertionSortOrdered_int.l0]) (Ev.pos (by omega) ?_), hr⟩
    rw [hC] at er
    simpa using er

/-- a list of at most twelve numbers, sorted -/
theorem sort_ev {l : List Int} (hl : l.length ≤ 12) : ∃ r, Ev (fun k => slices_Sort_int_int.f k l) r ∧ Asc r ∧ r.Perm l := by
  obtain ⟨r, er, hs, hp⟩ : ∃ r, Ev (fun k => slices_insertionSortOrdered_int.l0 k l 0 (l.length : Int) 1) r ∧ Asc r ∧ r.Perm l := by
    cases l with
    | nil => exact ⟨[], Ev.step (f := fun _ => some []) (fun k => by rw [slices_insertionSortOrdered_int.l0, if_neg (by simp)]) (Ev.now _), List.Pairwise.nil, List.Perm.refl _⟩
    | cons x T =>
      have := sort_outer (l := x :: T) (by omega) T.length 1 (by simp; omega) (by omega) [x] T rfl (by simp [Asc]) (by simp)
      simpa using this
  have e1 : Ev (fun k => slices_insertionSortOrdered_int.f k l 0 (l.length : Int)) r := by
    unfold slices_insertionSortOrdered_int.f
    rw [show wrap64 (0 + 1) = 1 by rw [wrap_in (by omega) (by omega)]; rfl]
    exact er
  have w : wrap64 ((l.length : Int) - 0) ≤ 12 := by rw [wrap_in (by omega) (by omega)]; omega
  have e2 : ∀ z, Ev (fun k => slices_pdqsortOrdered_int.f k l 0 (l.length : Int) z) r := fun z =>
    Ev.step (fun k => by rw [slices_pdqsortOrdered_int.f]) (Ev.step (fun k => by rw [slices_pdqsortOrdered_int.l0]) (Ev.pos w (Ev.bind1 e1 (Ev.now _))))
  have u : IntKind.u64.wrap (l.length : Int) = (l.length : Int) := by
    simp [IntKind.wrap, IntKind.bits, IntKind.signed]
    omega
  have e3 : ∃ z, Ev (fun _ => bits_Len.f (IntKind.u64.wrap (l.length : Int))) z := by
    rw [u]
    unfold bits_Len.f bits_Len64.f
    rw [if_pos (by omega)]
    exact ⟨_, Ev.some1 (Ev.now _)⟩
  obtain ⟨z, e3⟩ := e3
  refine ⟨r, ?_, hs, hp⟩
  unfold slices_Sort_int_int.f
  exact Ev.bind1 e3 (Ev.bind1 (e2 z) (Ev.now _))

theorem reverse_loop : ∀ n (M : List Int), M.length = n → ∀ A B : List Int, A.length + n + B.length ≤ 1000 →
    Ev (fun k => slices_Reverse_int_int.l0 k (A ++ M ++ B) (A.length : Int) ((A.length : Int) + (n : Int) - 1)) (A ++ M.reverse ++ B) := by
  intro n
  induction n using Nat.strongRecOn with
  | _ n ih =>
    intro M hM A B hb
    by_cases c : n ≤ 1
    · have hr : M.reverse = M := by
        match M, hM with
        | [], _ => rfl
        | [x], _ => rfl
        | x :: y :: t, h => simp at h; omega
      rw [hr]
      exact Ev.step (f := fun _ => some (A ++ M ++ B)) (fun k => by rw [slices_Reverse_int_int.l0, if_neg (by omega)]) (Ev.now _)
    · obtain ⟨x, M1, rfl⟩ : ∃ x M1, M = x :: M1 := by
        cases M with
        | nil => simp at hM; omega
        | cons x M1 => exact ⟨x, M1, rfl⟩
      obtain ⟨M2, y, rfl⟩ : ∃ M2 y, M1 = M2 ++ [y] := by
        rcases List.eq_nil_or_concat M1 with h | ⟨A', y, h⟩
        · rw [h] at hM; simp at hM; omega
        · exact ⟨A', y, by rw [h]; simp⟩
      have hn : M2.length + 2 = n := by simp at hM; omega
      have j0 : (A.length : Int) + (n : Int) - 1 = ((A.length + 1 + M2.length : Nat) : Int) := by omega
      rw [j0]
      have rx : rd (A ++ x :: (M2 ++ [y]) ++ B) (A.length : Int) = x := by
        have := rd_mid A x (M2 ++ [y] ++ B); simpa using this
      have ry : rd (A ++ x :: (M2 ++ [y]) ++ B) ((A.length + 1 + M2.length : Nat) : Int) = y := by
        have := rd_mid (A ++ x :: M2) y B
        simp only [List.length_append, List.length_cons] at this
        rw [show A.length + 1 + M2.length = A.length + (M2.length + 1) by omega]
        simpa using this
      have s1 : (A ++ x :: (M2 ++ [y]) ++ B).set A.length y = A ++ y :: (M2 ++ [y] ++ B) := by
        simp
      have s2 : (A ++ y :: (M2 ++ [y] ++ B)).set (A.length + 1 + M2.length) x = (A ++ [y]) ++ M2 ++ (x :: B) := by
        rw [show A.length + 1 + M2.length = A.length + (M2.length + 1) by omega]
        simp
      have w1 : wrap64 (((A.length + 1 + M2.length : Nat) : Int) - 1) = ((A ++ [y]).length : Int) + (M2.length : Int) - 1 := by
        rw [wrap_in (by omega) (by omega)]; (simp <;> omega)
      have := ih M2.length (by omega) M2 rfl (A ++ [y]) (x :: B) (by simp; omega)
      refine Ev.step (fun k => by rw [slices_Reverse_int_int.l0, rx, ry]) ?_
      refine Ev.pos (by omega) (Ev.pos (by omega) (Ev.pos (by simp; omega) (Ev.pos (by omega) (Ev.pos (by simp; omega) ?_))))
      rw [Int.toNat_natCast, Int.toNat_natCast, s1, s2, wrap_nat (by omega), w1, show ((A.length + 1 : Nat) : Int) = ((A ++ [y]).length : Int) by simp]
      have er : A ++ (x :: (M2 ++ [y])).reverse ++ B = (A ++ [y]) ++ M2.reverse ++ (x :: B) := by simp
      rw [er]
      exact this

theorem reverse_ev {l : List Int} (hl : l.length ≤ 1000) : Ev (fun k => slices_Reverse_int_int.f k l) l.reverse := by
  have := reverse_loop l.length l rfl [] [] (by simpa using hl)
  unfold slices_Reverse_int_int.f
  rw [wrap_in (by omega) (by omega)]
  simpa using this

def typeTo (g : Nat → Nat) : Nat → List Int
  | 0 => []
  | L + 1 => List.replicate (g (L + 1)) ((L + 1 : Nat) : Int) ++ typeTo g L

def typeL (n : Nat) (f : Nat → Nat) : List Int := typeTo (cl n f) n

theorem mem_typeTo {g : Nat → Nat} : ∀ {m : Nat} {x : Int}, x ∈ typeTo g m → 1 ≤ x ∧ x ≤ m
  | 0, x, h => by simp [typeTo] at h
  | m + 1, x, h => by
    simp only [typeTo, List.mem_append, List.mem_replicate] at h
    rcases h with ⟨_, rfl⟩ | h
    · omega
    · have := mem_typeTo h; omega

theorem typeTo_desc (g : Nat → Nat) : ∀ m, (typeTo g m).Pairwise (· ≥ ·)
  | 0 => List.Pairwise.nil
  | m + 1 => by
    simp only [typeTo]
    rw [List.pairwise_append]
    refine ⟨?_, typeTo_desc g m, ?_⟩
    · rw [List.pairwise_replicate]; right; exact Int.le_refl _
    · intro a ha b hb
      rw [List.mem_replicate] at ha
      have := mem_typeTo hb
      rw [ha.2]
      show b ≤ _
      omega

theorem count_typeTo (g : Nat → Nat) : ∀ m (L : Nat), List.count (L : Int) (typeTo g m) = if 1 ≤ L ∧ L ≤ m then g L else 0
  | 0, L => by simp [typeTo]; omega
  | m + 1, L => by
    simp only [typeTo, List.count_append, List.count_replicate, count_typeTo g m L]
    by_cases c : L = m + 1
    · subst c; simp; intro hh; omega
    · have : ¬ ((m + 1 : Nat) : Int) = (L : Int) := by omega
      rw [if_neg (by simpa using this)]
      by_cases d : 1 ≤ L ∧ L ≤ m
      · rw [if_pos d, if_pos (by omega)]; simp
      · rw [if_neg d, if_neg (by omega)]

theorem count_typeTo_neg (g : Nat → Nat) (m : Nat) (x : Int) (hx : x ≤ 0) : List.count x (typeTo g m) = 0 :=
  List.count_eq_zero.2 fun h => by have := mem_typeTo h; omega

def lens (n : Nat) (f : Nat → Nat) : List Int := (cycsL n f).map fun c => (c.length : Int)

theorem cycsL_mins (n : Nat) (f : Nat → Nat) : cycsL n f = (mins n f).map fun m => ints (cyc n f m) := rfl

theorem lens_mins (n : Nat) (f : Nat → Nat) : lens n f = (mins n f).map fun m => ((per n f m : Nat) : Int) := by
  unfold lens
  rw [cycsL_mins, List.map_map]
  apply List.map_congr_left
  intro a _
  simp [ints_len, cyc_length]

theorem lens_count {n : Nat} {f : Nat → Nat} (L : Nat) : List.count (L : Int) (lens n f) = cl n f L := by
  rw [lens_mins]
  unfold cl
  rw [List.count_eq_countP, List.countP_map]
  apply countP_congr'
  intro a _
  show ((per n f a : Int) == (L : Int)) = (per n f a == L)
  rw [Bool.eq_iff_iff]
  simp; omega

theorem lens_perm {n : Nat} {f : Nat → Nat} (h : Bij n f) : (typeL n f).Perm (lens n f) := by
  rw [List.perm_iff_count]
  intro x
  by_cases hx : x ≤ 0
  · unfold typeL
    rw [count_typeTo_neg _ _ _ hx]
    symm
    rw [List.count_eq_zero, lens_mins]
    intro hm
    rw [List.mem_map] at hm
    obtain ⟨a, ha, rfl⟩ := hm
    have := (per_spec h (mem_mins.1 ha).1).1
    omega
  · obtain ⟨L, rfl⟩ : ∃ L : Nat, x = L := ⟨x.toNat, by omega⟩
    unfold typeL
    rw [count_typeTo, lens_count]
    by_cases d : 1 ≤ L ∧ L ≤ n
    · rw [if_pos d]
    · rw [if_neg d]
      symm
      unfold cl
      rw [List.countP_eq_zero]
      intro a ha
      have := per_spec h (mem_mins.1 ha).1
      simp; omega

theorem type_unique {n : Nat} {f : Nat → Nat} (h : Bij n f) {r : List Int} (hs : Asc r) (hp : r.Perm (lens n f)) : r.reverse = typeL n f := by
  refine List.Perm.eq_of_pairwise (le := fun a b : Int => a ≥ b) (fun a b _ _ h1 h2 => Int.le_antisymm h2 h1) ?_ (typeTo_desc _ _) ?_
  · rw [List.pairwise_reverse]; exact hs
  · exact (List.reverse_perm r).trans (hp.trans (lens_perm h).symm)

theorem lens_len (n : Nat) (f : Nat → Nat) : (lens n f).length = cc n f := by simp [lens, cycsL_length]

theorem typeL_len {n : Nat} {f : Nat → Nat} (h : Bij n f) : (typeL n f).length = cc n f := by rw [(lens_perm h).length_eq, lens_len]

theorem rdL1_get {l : List (List Int)} {i : Nat} (h : i < l.length) : rd_L1 l (i : Int) = l[i] := by
  unfold rd_L1; simp [List.getD_eq_getElem?_getD, h]

theorem implType_ev {n : Nat} {f : Nat → Nat} (hn : n ≤ 12) (h : Bij n f) : Ev (fun k => impl_typeOf.f k (pm n f)) (typeL n f) := by
  have hc := cc_le n f
  obtain ⟨r, er, hs, hp⟩ := sort_ev (l := lens n f) (by rw [lens_len]; omega)
  have hr := type_unique h hs hp
  have rl : r.length ≤ 1000 := by rw [hp.length_eq, lens_len]; omega
  have er2 := reverse_ev rl
  rw [hr] at er2
  have loop : ∀ d i, i + d = (cycsL n f).length → Ev (fun k => impl_typeOf.l0 k ((lens n f).take i) (cycsL n f) ((cycsL n f).length : Int) (i : Int)) (typeL n f) := by
    intro d
    have cl_ := cycsL_length n f
    induction d with
    | zero =>
      intro i hi
      refine Ev.step (fun k => by rw [impl_typeOf.l0]) (Ev.neg (by omega) ?_)
      rw [List.take_of_length_le (by rw [lens_len]; omega)]
      exact Ev.bind1 er (Ev.bind1 er2 (Ev.now _))
    | succ d ih =>
      intro i hi
      have hil : i < (cycsL n f).length := by omega
      refine Ev.step (fun k => by rw [impl_typeOf.l0]) ?_
      refine Ev.pos (by omega) (Ev.pos (by omega) (Ev.pos (by omega) (Ev.pos (by rw [List.length_take]; omega) ?_)))
      have e : (lens n f).take i ++ [((rd_L1 (cycsL n f) (i : Int)).length : Int)] = (lens n f).take (i + 1) := by
        rw [List.take_succ_eq_append_getElem (by rw [lens_len]; omega), rdL1_get hil]
        simp [lens]
      rw [e, wrap_nat (by omega)]
      exact ih (i + 1) (by omega)
  unfold impl_typeOf.f
  refine Ev.bind1 (implCycles_ev (by omega) h) ?_
  have := loop (cycsL n f).length 0 (by omega)
  simpa using this

theorem typeTo_congr {g k : Nat → Nat} (h : ∀ L, 0 < L → g L = k L) : ∀ m, typeTo g m = typeTo k m
  | 0 => rfl
  | m + 1 => by simp only [typeTo]; rw [h (m + 1) (by omega), typeTo_congr h m]

theorem typeL_inv {n : Nat} {f g : Nat → Nat} (hf : Bij n f) (hg : Bij n g) (e : ∀ x, x < n → g (f x) = x) : typeL n g = typeL n f := typeTo_congr (fun L hL => cl_inv hf hg e hL) n

theorem mulR_perm {n : Nat} {a b : List Int} {f g : Nat → Nat} (h : IsPerm n a f) (k : IsPerm n b g) : mulR a b = (pm n (fun i => g (f i)), true) := by
  unfold mulR
  rw [if_pos ((both_iff a b).2 ⟨n, f, g, h, k⟩), h.2.2.2, k.2.2.2, pm_map h.2.2.1.1]

theorem implMul_pm {n : Nat} {a b : List Int} {f g : Nat → Nat} (h : IsPerm n a f) (k : IsPerm n b g) : Ev (fun q => impl_PermMul.f q a b) (pm n (fun i => g (f i)), true) := by
  have := implMul_ev a b; rwa [mulR_perm h k] at this

theorem stayOf_ev {n : Nat} (hn : n ≤ 1000) : Ev (fun k => laws_stayOf.f k (n : Int)) (pm n fun i => i) := by
  have loop : ∀ d i, i + d = n → Ev (fun k => laws_stayOf.l0 k (n : Int) (pm i fun i => i) (i : Int)) (pm n fun i => i) := by
    intro d
    induction d with
    | zero =>
      intro i hi
      have e : i = n := by omega
      subst e
      exact Ev.step (f := fun _ => some (pm i fun i => i)) (fun k => by rw [laws_stayOf.l0, if_neg (by omega)]) (Ev.now _)
    | succ d ih =>
      intro i hi
      refine Ev.step (f := fun k => laws_stayOf.l0 k (n : Int) (pm (i + 1) fun i => i) ((i + 1 : Nat) : Int)) (fun k => by
        rw [laws_stayOf.l0, if_pos (by omega), if_pos (by rw [pm_length]; omega), wrap_nat (by omega)]
        simp [pm, List.range_succ]) (ih (i + 1) (by omega))
  unfold laws_stayOf.f
  exact loop n 0 (by omega)

theorem implTypeP {n : Nat} {a : List Int} {f : Nat → Nat} (h : IsPerm n a f) : Ev (fun k => impl_PermType.f k a) (typeL n f, true) := by
  have e := implType_ev h.2.1 h.2.2.1
  rw [← h.2.2.2] at e
  exact Ev.bind1 (implValid_ev a) (Ev.pos (isPerm_valid h) (Ev.bind1 e (Ev.now _)))

theorem implBackP {n : Nat} {a : List Int} {f : Nat → Nat} (h : IsPerm n a f) : Ev (fun k => impl_PermBack.f k a) (pm n (finv n f), true) := by
  have := implBack_ev a
  rw [backR_perm h] at this
  exact this

theorem isPerm_pm {n : Nat} {f : Nat → Nat} (h1 : 1 ≤ n) (h2 : n ≤ 12) (h : Bij n f) : IsPerm n (pm n f) f := ⟨h1, h2, h, rfl⟩

theorem backR_len (a : List Int) : (backR a).1.length ≤ 12 := by
  by_cases c : impl_PermValid.validB a = true
  · obtain ⟨f, h⟩ := (valid_iff a).1 c
    rw [backR_perm h]; show (pm _ _).length ≤ 12; rw [pm_length]; exact h.2.1
  · unfold backR; rw [if_neg c]; simp

theorem sameSelf {a : List Int} (h : a.length ≤ 1000) : Ev (fun k => laws_sameInts.f k a a) true := by
  have := sameInts_ev (a := a) (b := a) (by omega)
  simpa using this

/-- Back and forth moves nothing. -/
theorem FnBack : laws_FnBack.Pure := by
  intro l hl1 hl2 hw
  refine Ev.rounds ?_
  unfold laws_FnBack.f
  by_cases c : (l.length : Int) > 1048576
  · exact Ev.pos c (Ev.now _)
  obtain ⟨s, hs, es⟩ := open_ev hw
  obtain ⟨p, p', ep, hp, _⟩ := some_ev hs (p := 0) (by omega) (by omega) (n := 9) (by omega) (by omega)
  have dr : Ev (fun k => spec_DrawPermBack.f k l) p := by
    unfold spec_DrawPermBack.f
    exact Ev.bind1 es (Ev.bind1 ep (Ev.now _))
  have bl := backR_len p
  refine Ev.neg c (Ev.bind1 dr (Ev.bind1 (implBack_ev p) (Ev.bind1 (specBack_ev (by omega)) (Ev.neg (by simp) (Ev.bind1 (sameSelf (by omega)) (Ev.pos rfl ?_))))))
  refine Ev.step (fun k => by rw [laws_FnBack.j0]) ?_
  by_cases v : impl_PermValid.validB p = true
  · obtain ⟨f, h⟩ := (valid_iff p).1 v
    obtain ⟨n, en⟩ : ∃ n, n = p.length := ⟨_, rfl⟩
    rw [← en] at h
    have h12 := h.2.1
    have h1 := h.1
    rw [backR_perm h]
    have hb := isPerm_pm h.1 h.2.1 (finv_bij h.2.2.1)
    have m1 := implMul_pm h hb
    have m2 := implMul_pm hb h
    have i1 : (pm n fun i => finv n f (f i)) = pm n fun i => i := pm_ext.2 fun i hi => finv_left h.2.2.1 hi
    have i2 : (pm n fun i => f (finv n f i)) = pm n fun i => i := pm_ext.2 fun i hi => (finv_spec h.2.2.1 hi).2
    have i3 : pm n (finv n (finv n f)) = p := by
      rw [h.2.2.2, pm_ext]
      intro i hi
      have a1 := finv_spec (finv_bij h.2.2.1) hi
      rw [← a1.2, (finv_spec h.2.2.1 a1.1).2]
      rw [a1.2]
    rw [i1] at m1
    rw [i2] at m2
    have b2 := implBackP hb
    rw [i3] at b2
    have ty := typeL_inv h.2.2.1 (finv_bij h.2.2.1) (fun x hx => finv_left h.2.2.1 hx)
    have t2 := implTypeP hb
    rw [ty] at t2
    have st := stayOf_ev (n := n) (by omega)
    have hl := typeL_len h.2.2.1
    have hc := cc_le n f
    refine Ev.neg (by simp) (Ev.bind1 b2 (Ev.bind1 m1 (Ev.bind1 m2 (Ev.bind1 (implTypeP h) (Ev.bind1 t2 (Ev.pos rfl (Ev.pos rfl (Ev.pos rfl (Ev.pos rfl (Ev.pos rfl (Ev.bind1 (sameSelf (a := p) (by omega)) (Ev.pos rfl ?_))))))))))))
    rw [← en]
    exact Ev.bind1 st (Ev.bind1 (sameSelf (by rw [pm_length]; omega)) (Ev.pos rfl (Ev.bind1 st (Ev.bind1 (sameSelf (by rw [pm_length]; omega)) (Ev.pos rfl (Ev.bind1 (sameSelf (a := typeL n f) (by omega)) (Ev.now _)))))))
  · have e : backR p = ([], false) := by unfold backR; rw [if_neg v]
    rw [e]
    exact Ev.pos rfl (Ev.pos (by simp) (Ev.bind1 (sameSelf (by simp)) (Ev.now _)))
end Go.Proofs.Yteffimfifgnleaa.R
namespace Go.Proofs.Yteffimfifgnleaa.Pure
theorem FnBack : Go.Proofs.Yteffimfifgnleaa.F.laws_FnBack.Pure := Go.Proofs.Yteffimfifgnleaa.R.FnBack
end Go.Proofs.Yteffimfifgnleaa.Pure
