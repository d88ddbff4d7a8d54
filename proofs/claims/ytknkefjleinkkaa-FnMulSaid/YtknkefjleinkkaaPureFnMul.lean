/- Products are permutations: they are put together in any order, lead back in the other order, and signs multiply. -/
import Derived.Test.YtknkefjleinkkaaF1
import Derived.Test.YtknkefjleinkkaaF2
import Derived.Test.YtknkefjleinkkaaF3
import Derived.Test.YtknkefjleinkkaaF4
import Derived.Test.YtknkefjleinkkaaF5
import Derived.Test.YtknkefjleinkkaaF6
import Derived.Test.YtknkefjleinkkaaF11
import Derived.Test.YtknkefjleinkkaaF14
import Derived.Test.YtknkefjleinkkaaF15
import Derived.Test.YtknkefjleinkkaaF16
import Derived.Test.YtknkefjleinkkaaF17
import Derived.Test.YtknkefjleinkkaaF18
import Derived.Test.YtknkefjleinkkaaF19
import Derived.Test.YtknkefjleinkkaaF21
import Derived.Test.YtknkefjleinkkaaF22
set_option linter.unusedVariables false
set_option linter.unusedSimpArgs false
namespace Go.Proofs.Ytknkefjleinkkaa.Sm
open List
/-- f permutes the numbers below n. -/
def Bij (n : Nat) (f : Nat → Nat) : Prop := (∀ i, i < n → f i < n) ∧ (∀ i j, i < n → j < n → f i = f j → i = j)

/-- the list of a permutation -/
def pm (n : Nat) (f : Nat → Nat) : List Int := (List.range n).map (fun i => (f i : Int))

theorem pm_length (n : Nat) (f : Nat → Nat) : (pm n f).length = n := by simp [pm]

theorem pm_getD (n : Nat) (f : Nat → Nat) (i : Nat) (h : i < n) : (pm n f).getD i 0 = (f i : Int) := by
  simp [pm, List.getD, h]

theorem pm_ext {n : Nat} {f g : Nat → Nat} : pm n f = pm n g ↔ ∀ i, i < n → f i = g i := by
  constructor
  · intro h i hi
    have := pm_getD n f i hi
    rw [h, pm_getD n g i hi] at this
    omega
  · intro h
    unfold pm
    apply List.map_congr_left
    intro i hi
    rw [h i (by simpa using hi)]

theorem eq_pm (n : Nat) (f : Nat → Nat) (l : List Int) (hl : l.length = n) (h : ∀ i, i < n → l.getD i 0 = (f i : Int)) : l = pm n f := by
  apply List.ext_getElem
  · rw [hl, pm_length]
  · intro i h1 h2
    have := h i (by omega)
    have e := pm_getD n f i (by omega)
    simp only [List.getD_eq_getElem?_getD, List.getElem?_eq_getElem h1, Option.getD_some] at this
    simp only [List.getD_eq_getElem?_getD, List.getElem?_eq_getElem h2, Option.getD_some] at e
    rw [this, e]

/-- the permutation without its last point -/
def byp (n : Nat) (f : Nat → Nat) (i : Nat) : Nat := if f i = n then f n else f i

theorem byp_bij {n : Nat} {f : Nat → Nat} (h : Bij (n + 1) f) : Bij n (byp n f) := by
  obtain ⟨h1, h2⟩ := h
  constructor
  · intro i hi
    unfold byp
    have a := h1 i (by omega)
    have b := h1 n (by omega)
    split
    · rename_i e
      have : f n ≠ n := fun e2 => by have := h2 i n (by omega) (by omega) (by omega); omega
      omega
    · omega
  · intro i j hi hj e
    unfold byp at e
    by_cases e1 : f i = n <;> by_cases e2 : f j = n
    · exact h2 i j (by omega) (by omega) (by omega)
    · rw [if_pos e1, if_neg e2] at e
      have := h2 n j (by omega) (by omega) e; omega
    · rw [if_neg e1, if_pos e2] at e
      have := h2 i n (by omega) (by omega) e; omega
    · rw [if_neg e1, if_neg e2] at e
      exact h2 i j (by omega) (by omega) e

theorem surj {n : Nat} {f : Nat → Nat} (h : Bij n f) : ∀ y, y < n → ∃ x, x < n ∧ f x = y := by
  induction n generalizing f with
  | zero => intro y hy; omega
  | succ n ih =>
    have hb := ih (byp_bij h)
    obtain ⟨h1, h2⟩ := h
    intro y hy
    by_cases e : y = n
    · subst e
      by_cases e1 : f y = y
      · exact ⟨y, by omega, e1⟩
      · have b := h1 y (by omega)
        obtain ⟨x, hx, e2⟩ := hb (f y) (by omega)
        unfold byp at e2
        split at e2
        · rename_i e3; exact ⟨x, by omega, e3⟩
        · have := h2 x y (by omega) (by omega) e2; omega
    · obtain ⟨x, hx, e2⟩ := hb y (by omega)
      unfold byp at e2
      split at e2
      · exact ⟨n, by omega, e2⟩
      · exact ⟨x, by omega, e2⟩

/-- the inverse below n -/
def finv (n : Nat) (f : Nat → Nat) (y : Nat) : Nat := ((List.range n).find? (fun i => f i == y)).getD 0

theorem finv_spec {n : Nat} {f : Nat → Nat} (h : Bij n f) {y : Nat} (hy : y < n) : finv n f y < n ∧ f (finv n f y) = y := by
  obtain ⟨x, hx, e⟩ := surj h y hy
  unfold finv
  cases hf : (List.range n).find? (fun i => f i == y) with
  | none =>
    rw [List.find?_eq_none] at hf
    exact absurd (hf x (by simpa using hx)) (by simp [e])
  | some z =>
    have a := List.mem_of_find?_eq_some hf
    have b := List.find?_some hf
    simp at a b
    exact ⟨by simpa using a, by simpa using b⟩

theorem finv_left {n : Nat} {f : Nat → Nat} (h : Bij n f) {x : Nat} (hx : x < n) : finv n f (f x) = x := by
  have := finv_spec h (h.1 x hx)
  exact h.2 _ _ this.1 hx this.2

theorem finv_bij {n : Nat} {f : Nat → Nat} (h : Bij n f) : Bij n (finv n f) := by
  refine ⟨fun i hi => (finv_spec h hi).1, fun i j hi hj e => ?_⟩
  have a := (finv_spec h hi).2
  have b := (finv_spec h hj).2
  rw [e] at a
  omega

theorem comp_bij {n : Nat} {f g : Nat → Nat} (h : Bij n f) (k : Bij n g) : Bij n (fun i => g (f i)) :=
  ⟨fun i hi => k.1 _ (h.1 i hi), fun i j hi hj e => h.2 i j hi hj (k.2 _ _ (h.1 i hi) (h.1 j hj) e)⟩

theorem id_bij (n : Nat) : Bij n (fun i => i) := ⟨fun _ h => h, fun _ _ _ _ e => e⟩

/-- f done m times -/
def it (f : Nat → Nat) : Nat → Nat → Nat
  | 0, x => x
  | m + 1, x => f (it f m x)

theorem it_add (f : Nat → Nat) (a b x : Nat) : it f (a + b) x = it f a (it f b x) := by
  induction a with
  | zero => simp [it]
  | succ a ih => rw [Nat.succ_add]; simp [it, ih]

theorem it_lt {n : Nat} {f : Nat → Nat} (h : Bij n f) (m : Nat) {x : Nat} (hx : x < n) : it f m x < n := by
  induction m with
  | zero => exact hx
  | succ m ih => exact h.1 _ ih

theorem it_inj {n : Nat} {f : Nat → Nat} (h : Bij n f) (m : Nat) {x y : Nat} (hx : x < n) (hy : y < n) (e : it f m x = it f m y) : x = y := by
  induction m with
  | zero => exact e
  | succ m ih => exact ih (h.2 _ _ (it_lt h m hx) (it_lt h m hy) e)

/-- pigeonhole: more than n numbers below n: two are equal -/
theorem pigeon (n : Nat) (g : Nat → Nat) (h : ∀ i, i ≤ n → g i < n) : ∃ i j, i < j ∧ j ≤ n ∧ g i = g j := by
  induction n generalizing g with
  | zero => exact absurd (h 0 (by omega)) (by omega)
  | succ n ih =>
    by_cases c : ∃ i, i < n + 1 ∧ g i = g (n + 1)
    · obtain ⟨i, hi, e⟩ := c; exact ⟨i, n + 1, hi, by omega, e⟩
    · have c' : ∀ i, i < n + 1 → g i ≠ g (n + 1) := fun i hi e => c ⟨i, hi, e⟩
      obtain ⟨i, j, hij, hj, e⟩ := ih (fun i => if g i = n then g (n + 1) else g i) (fun i hi => by
        have a := h i (by omega)
        have b := h (n + 1) (by omega)
        have d := c' i (by omega)
        show (if g i = n then g (n + 1) else g i) < n
        split <;> omega)
      refine ⟨i, j, hij, by omega, ?_⟩
      have di := c' i (by omega)
      have dj := c' j (by omega)
      by_cases e1 : g i = n <;> by_cases e2 : g j = n
      · omega
      · rw [if_pos e1, if_neg e2] at e; omega
      · rw [if_neg e1, if_pos e2] at e; omega
      · rw [if_neg e1, if_neg e2] at e; exact e

theorem it_back {n : Nat} {f : Nat → Nat} (h : Bij n f) {x : Nat} (hx : x < n) : ∃ m, 0 < m ∧ m ≤ n ∧ it f m x = x := by
  obtain ⟨i, j, hij, hj, e⟩ := pigeon n (fun m => it f m x) (fun m _ => it_lt h m hx)
  refine ⟨j - i, by omega, by omega, ?_⟩
  have : it f (i + (j - i)) x = it f i (it f (j - i) x) := it_add ..
  rw [show i + (j - i) = j by omega] at this
  exact (it_inj h i hx (it_lt h _ hx) (e.trans this)).symm

/-- the least positive m with p m, below a bound; else 0 -/
def least (p : Nat → Bool) (n : Nat) : Nat := ((List.range n).find? (fun m => p (m + 1))).elim 0 (· + 1)

theorem find_range_some {n : Nat} {p : Nat → Bool} {m : Nat} (h : (List.range n).find? p = some m) : m < n ∧ p m = true ∧ ∀ k, k < m → p k = false := by
  induction n generalizing m with
  | zero => simp at h
  | succ n ih =>
    rw [List.range_succ, List.find?_append] at h
    cases e : (List.range n).find? p with
    | some z =>
      rw [e] at h; simp at h; subst h
      have := ih e
      exact ⟨by omega, this.2⟩
    | none =>
      rw [e] at h
      simp at h
      obtain ⟨h1, rfl⟩ := h
      refine ⟨by omega, h1, fun k hk => ?_⟩
      rw [List.find?_eq_none] at e
      simpa using e k (by simpa using hk)

theorem least_spec {p : Nat → Bool} {n m : Nat} (hm : 0 < m) (hn : m ≤ n) (h : p m = true) :
    0 < least p n ∧ least p n ≤ m ∧ p (least p n) = true ∧ ∀ k, 0 < k → k < least p n → p k = false := by
  unfold least
  cases e : (List.range n).find? (fun m => p (m + 1)) with
  | none =>
    rw [List.find?_eq_none] at e
    have := e (m - 1) (by simp; omega)
    rw [show m - 1 + 1 = m by omega] at this
    exact absurd h this
  | some z =>
    obtain ⟨h1, h2, h3⟩ := find_range_some e
    simp only [Option.elim_some]
    refine ⟨by omega, ?_, h2, fun k hk hk2 => ?_⟩
    · apply Nat.le_of_not_lt
      intro hlt
      have := h3 (m - 1) (by omega)
      rw [show m - 1 + 1 = m by omega, h] at this
      cases this
    · have := h3 (k - 1) (by omega)
      rwa [show k - 1 + 1 = k by omega] at this

/-- how long the cycle of x is -/
def per (n : Nat) (f : Nat → Nat) (x : Nat) : Nat := least (fun m => it f m x == x) n

theorem per_spec {n : Nat} {f : Nat → Nat} (h : Bij n f) {x : Nat} (hx : x < n) :
    0 < per n f x ∧ per n f x ≤ n ∧ it f (per n f x) x = x ∧ ∀ k, 0 < k → k < per n f x → it f k x ≠ x := by
  obtain ⟨m, h1, h2, h3⟩ := it_back h hx
  obtain ⟨a, b, c, d⟩ := least_spec (p := fun m => it f m x == x) (n := n) h1 h2 (by simpa using h3)
  refine ⟨a, by unfold per; omega, ?_, fun k hk hk2 => by simpa using d k hk hk2⟩
  have := eq_of_beq c
  exact this

theorem it_mul_per {n : Nat} {f : Nat → Nat} (h : Bij n f) {x : Nat} (hx : x < n) (q : Nat) : it f (per n f x * q) x = x := by
  induction q with
  | zero => rfl
  | succ q ih => rw [Nat.mul_succ, it_add, (per_spec h hx).2.2.1, ih]

theorem it_mod_per {n : Nat} {f : Nat → Nat} (h : Bij n f) {x : Nat} (hx : x < n) (m : Nat) : it f m x = it f (m % per n f x) x := by
  conv => lhs; rw [← Nat.mod_add_div m (per n f x)]
  rw [it_add, it_mul_per h hx]

theorem map_perm {n : Nat} {f : Nat → Nat} (h : Bij n f) : ((List.range n).map f).Perm (List.range n) := by
  rw [perm_iff_count]
  intro a
  have nd : ((List.range n).map f).Nodup := by
    unfold Nodup
    rw [pairwise_map]
    have := nodup_range (n := n)
    unfold Nodup at this
    rw [pairwise_iff_getElem] at this ⊢
    intro i j hi hj hij e
    have hi' : i < n := by simpa using hi
    have hj' : j < n := by simpa using hj
    simp only [getElem_range] at e
    have := h.2 i j hi' hj' e
    omega
  rw [nd.count, (nodup_range (n := n)).count]
  have : a ∈ (List.range n).map f ↔ a ∈ List.range n := by
    simp only [mem_map, mem_range]
    constructor
    · rintro ⟨x, hx, rfl⟩; exact h.1 x hx
    · intro ha; exact surj h a ha
  by_cases c : a ∈ List.range n
  · rw [if_pos c, if_pos (this.2 c)]
  · rw [if_neg c, if_neg (fun d => c (this.1 d))]

/-- the parity of a sum of bits -/
def xs (g : Nat → Bool) : List Nat → Bool
  | [] => false
  | a :: l => xor (g a) (xs g l)

theorem xs_append (g : Nat → Bool) (l r : List Nat) : xs g (l ++ r) = xor (xs g l) (xs g r) := by
  induction l with
  | nil => simp [xs]
  | cons a l ih => simp [xs, ih]

theorem xs_perm (g : Nat → Bool) {l r : List Nat} (h : l.Perm r) : xs g l = xs g r := by
  induction h with
  | nil => rfl
  | cons a _ ih => simp [xs, ih]
  | swap a b l => simp only [xs]; rw [← Bool.xor_assoc, ← Bool.xor_assoc, Bool.xor_comm (g b)]
  | trans _ _ h1 h2 => exact h1.trans h2

theorem xs_xor (g k : Nat → Bool) (l : List Nat) : xs (fun a => xor (g a) (k a)) l = xor (xs g l) (xs k l) := by
  induction l with
  | nil => rfl
  | cons a l ih =>
    simp only [xs, ih]
    cases g a <;> cases k a <;> simp

theorem xs_congr {g k : Nat → Bool} {l : List Nat} (h : ∀ a, a ∈ l → g a = k a) : xs g l = xs k l := by
  induction l with
  | nil => rfl
  | cons a l ih => simp only [xs]; rw [h a (by simp), ih (fun b hb => h b (by simp [hb]))]

theorem xs_map (g : Nat → Bool) (f : Nat → Nat) (l : List Nat) : xs g (l.map f) = xs (fun a => g (f a)) l := by
  induction l with
  | nil => rfl
  | cons a l ih => simp [xs, ih]

theorem xs_false {g : Nat → Bool} {l : List Nat} (h : ∀ a, a ∈ l → g a = false) : xs g l = false := by
  induction l with
  | nil => rfl
  | cons a l ih => simp only [xs]; rw [h a (by simp), ih (fun b hb => h b (by simp [hb]))]; rfl

/-- the parity over all pairs of a list, the earlier one first -/
def px (t : Nat → Nat → Bool) : List Nat → Bool
  | [] => false
  | a :: l => xor (xs (t a) l) (px t l)

theorem px_perm {t : Nat → Nat → Bool} (s : ∀ a b, t a b = t b a) {l r : List Nat} (h : l.Perm r) : px t l = px t r := by
  induction h with
  | nil => rfl
  | cons a h ih => simp only [px]; rw [ih, xs_perm _ h]
  | swap a b l =>
    simp only [px, xs]
    rw [s b a]
    cases t a b <;> cases xs (t a) l <;> cases xs (t b) l <;> cases px t l <;> rfl
  | trans _ _ h1 h2 => exact h1.trans h2

theorem px_xor (t u : Nat → Nat → Bool) (l : List Nat) : px (fun a b => xor (t a b) (u a b)) l = xor (px t l) (px u l) := by
  induction l with
  | nil => rfl
  | cons a l ih =>
    simp only [px, ih, xs_xor]
    cases xs (t a) l <;> cases xs (u a) l <;> cases px t l <;> cases px u l <;> rfl

theorem px_map (t : Nat → Nat → Bool) (f : Nat → Nat) (l : List Nat) : px t (l.map f) = px (fun a b => t (f a) (f b)) l := by
  induction l with
  | nil => rfl
  | cons a l ih => simp only [List.map_cons, px, ih, xs_map]

theorem px_congr {t u : Nat → Nat → Bool} {l : List Nat} (nd : l.Nodup) (h : ∀ a b, a ∈ l → b ∈ l → a ≠ b → t a b = u a b) : px t l = px u l := by
  induction l with
  | nil => rfl
  | cons a l ih =>
    simp only [px]
    rw [nodup_cons] at nd
    rw [ih nd.2 (fun x y hx hy e => h x y (by simp [hx]) (by simp [hy]) e), xs_congr (fun b hb => h a b (by simp) (by simp [hb]) (fun e => nd.1 (e ▸ hb)))]

theorem px_snoc (t : Nat → Nat → Bool) (l : List Nat) (a : Nat) : px t (l ++ [a]) = xor (px t l) (xs (fun b => t b a) l) := by
  induction l with
  | nil => simp [px, xs]
  | cons b l ih =>
    simp only [List.cons_append, px, xs, ih, xs_append]
    cases xs (t b) l <;> cases t b a <;> cases px t l <;> cases xs (fun b => t b a) l <;> rfl

/-- is the number of turned pairs odd? -/
def odd (n : Nat) (f : Nat → Nat) : Bool := px (fun a b => decide (f b < f a)) (List.range n)

theorem odd_id (n : Nat) : odd n (fun i => i) = false := by
  unfold odd
  induction n with
  | zero => rfl
  | succ n ih =>
    rw [List.range_succ, px_snoc, ih, xs_false]
    · rfl
    · intro a ha; simp at ha ⊢; omega

theorem odd_congr {n : Nat} {f g : Nat → Nat} (h : ∀ i, i < n → f i = g i) : odd n f = odd n g := by
  unfold odd
  apply px_congr nodup_range
  intro a b ha hb _
  rw [h a (by simpa using ha), h b (by simpa using hb)]

theorem odd_comp {n : Nat} {f g : Nat → Nat} (hf : Bij n f) (hg : Bij n g) : odd n (fun i => g (f i)) = xor (odd n f) (odd n g) := by
  have e1 : odd n (fun i => g (f i)) = px (fun a b => decide (g b < g a)) ((List.range n).map f) := by rw [px_map]; rfl
  have e2 : odd n f = px (fun a b => decide (b < a)) ((List.range n).map f) := by rw [px_map]; rfl
  have nd : ((List.range n).map f).Nodup := (map_perm hf).nodup_iff.2 nodup_range
  have hm : ∀ a, a ∈ (List.range n).map f → a < n := fun a ha => by simpa using (map_perm hf).mem_iff.1 ha
  let t : Nat → Nat → Bool := fun a b => xor (decide (g b < g a)) (decide (b < a))
  let u : Nat → Nat → Bool := fun a b => xor (decide (g (max a b) < g (min a b))) false
  have ht : ∀ a b, a < n → b < n → a ≠ b → t a b = u a b := by
    intro a b ha hb e
    have gi : g a ≠ g b := fun c => e (hg.2 a b ha hb c)
    show xor (decide (g b < g a)) (decide (b < a)) = xor (decide (g (max a b) < g (min a b))) false
    by_cases c : b < a
    · rw [Nat.max_eq_left (by omega), Nat.min_eq_right (by omega)]
      by_cases d : g b < g a
      · simp [c, d]; omega
      · simp [c, d]; omega
    · rw [Nat.max_eq_right (by omega), Nat.min_eq_left (by omega)]
      simp [c]
  have hs : ∀ a b, u a b = u b a := by intro a b; show xor _ false = xor _ false; rw [Nat.max_comm, Nat.min_comm]
  have e3 : px t ((List.range n).map f) = px t (List.range n) := by
    rw [px_congr (u := u) nd (fun a b ha hb e => ht a b (hm a ha) (hm b hb) e), px_perm hs (map_perm hf), ← px_congr nodup_range (fun a b ha hb e => ht a b (by simpa using ha) (by simpa using hb) e)]
  have e4 : px t (List.range n) = odd n g := by
    have := px_xor (fun a b => decide (g b < g a)) (fun a b => decide (b < a)) (List.range n)
    have i := odd_id n
    unfold odd at i
    rw [i] at this
    simpa [t, odd] using this
  have e5 : px t ((List.range n).map f) = xor (odd n (fun i => g (f i))) (odd n f) := by
    rw [e1, e2]
    exact px_xor (fun a b => decide (g b < g a)) (fun a b => decide (b < a)) _
  rw [e5, ] at e3
  rw [e4] at e3
  cases h1 : odd n (fun i => g (f i)) <;> cases h2 : odd n f <;> cases h3 : odd n g <;> rw [h1, h2, h3] at e3 <;> first | rfl | cases e3

/-- two points change places -/
def swp (a b i : Nat) : Nat := if i = a then b else if i = b then a else i

theorem swp_bij {n a b : Nat} (ha : a < n) (hb : b < n) : Bij n (swp a b) := by
  constructor
  · intro i hi; unfold swp; split <;> (try split) <;> omega
  · intro i j _ _ e; unfold swp at e; split at e <;> split at e <;> (try split at e) <;> (try split at e) <;> omega

theorem odd_adj (n : Nat) : odd (n + 2) (swp n (n + 1)) = true := by
  have h : ∀ k, k ≤ n → odd k (swp n (n + 1)) = false := by
    intro k hk
    rw [odd_congr (g := fun i => i), odd_id]
    intro i hi; unfold swp; rw [if_neg (by omega), if_neg (by omega)]
  have a := h n (by omega)
  unfold odd at a ⊢
  rw [List.range_succ, px_snoc, List.range_succ, px_snoc, a, xs_append, xs_false, xs_false]
  · simp [xs, swp]
  · intro i hi; simp at hi; unfold swp; simp; rw [if_neg (show ¬ i = n by omega), if_neg (show ¬ i = n + 1 by omega)]; omega
  · intro i hi; simp at hi; unfold swp; simp; rw [if_neg (show ¬ i = n by omega), if_neg (show ¬ i = n + 1 by omega)]; omega

theorem odd_swp {n i : Nat} (h : i < n) : odd (n + 1) (swp i n) = true := by
  obtain ⟨m, rfl⟩ : ∃ m, n = m + 1 := ⟨n - 1, by omega⟩
  by_cases e : i = m
  · subst e; exact odd_adj i
  · have hs := swp_bij (n := m + 2) (a := i) (b := m) (by omega) (by omega)
    have ht := swp_bij (n := m + 2) (a := m) (b := m + 1) (by omega) (by omega)
    have e1 : ∀ j, j < m + 2 → (fun j => swp i m (swp m (m + 1) (swp i m j))) j = swp i (m + 1) j := by
      intro j hj
      show swp i m (swp m (m + 1) (swp i m j)) = swp i (m + 1) j
      by_cases c1 : j = i
      · have a1 : swp i m j = m := by unfold swp; rw [if_pos c1]
        have a2 : swp m (m + 1) m = m + 1 := by unfold swp; rw [if_pos rfl]
        have a3 : swp i m (m + 1) = m + 1 := by unfold swp; rw [if_neg (by omega), if_neg (by omega)]
        have a4 : swp i (m + 1) j = m + 1 := by unfold swp; rw [if_pos c1]
        rw [a1, a2, a3, a4]
      by_cases c2 : j = m
      · have a1 : swp i m j = i := by unfold swp; rw [if_neg c1, if_pos c2]
        have a2 : swp m (m + 1) i = i := by unfold swp; rw [if_neg (by omega), if_neg (by omega)]
        have a3 : swp i m i = m := by unfold swp; rw [if_pos rfl]
        have a4 : swp i (m + 1) j = j := by unfold swp; rw [if_neg c1, if_neg (by omega)]
        rw [a1, a2, a3, a4, c2]
      have a1 : swp i m j = j := by unfold swp; rw [if_neg c1, if_neg c2]
      rw [a1]
      by_cases c3 : j = m + 1
      · have a2 : swp m (m + 1) j = m := by unfold swp; rw [if_neg c2, if_pos c3]
        have a3 : swp i m m = i := by unfold swp; rw [if_neg (by omega), if_pos rfl]
        have a4 : swp i (m + 1) j = i := by unfold swp; rw [if_neg c1, if_pos c3]
        rw [a2, a3, a4]
      · have a2 : swp m (m + 1) j = j := by unfold swp; rw [if_neg c2, if_neg c3]
        have a4 : swp i (m + 1) j = j := by unfold swp; rw [if_neg c1, if_neg c3]
        rw [a2, a1, a4]
    have e2 := odd_comp hs (comp_bij ht hs)
    have e3 := odd_comp ht hs
    have e4 := odd_congr e1
    rw [← e4]
    show odd (m + 2) _ = true
    rw [e2, e3, odd_adj]
    cases odd (m + 2) (swp i m) <;> rfl

/-- is i the least of its cycle? -/
def isMin (n : Nat) (f : Nat → Nat) (i : Nat) : Bool := (List.range n).all fun k => decide (i ≤ it f k i)

/-- the number of cycles -/
def cc (n : Nat) (f : Nat → Nat) : Nat := ((List.range n).filter (isMin n f)).length

theorem isMin_iff {n : Nat} {f : Nat → Nat} (h : Bij n f) {i : Nat} (hi : i < n) : isMin n f i = true ↔ ∀ k, i ≤ it f k i := by
  unfold isMin
  rw [List.all_eq_true]
  constructor
  · intro a k
    rw [it_mod_per h hi]
    have p := per_spec h hi
    have := a (k % per n f i) (by rw [mem_range]; have := Nat.mod_lt k p.1; omega)
    simpa using this
  · intro a k _
    simpa using a k

theorem cc_le (n : Nat) (f : Nat → Nat) : cc n f ≤ n := by
  unfold cc
  have := List.length_filter_le (isMin n f) (List.range n)
  simpa using this

theorem byp_reach {n : Nat} {f : Nat → Nat} (h : Bij (n + 1) f) {i : Nat} (hi : i < n) (k : Nat) : ∃ k', it (byp n f) k i = it f k' i := by
  induction k with
  | zero => exact ⟨0, rfl⟩
  | succ k ih =>
    obtain ⟨k', e⟩ := ih
    show ∃ k', byp n f (it (byp n f) k i) = it f k' i
    rw [e]
    unfold byp
    by_cases c : f (it f k' i) = n
    · rw [if_pos c]; exact ⟨k' + 2, by show f n = f (f (it f k' i)); rw [c]⟩
    · rw [if_neg c]; exact ⟨k' + 1, rfl⟩

theorem reach_byp {n : Nat} {f : Nat → Nat} (h : Bij (n + 1) f) {i : Nat} (hi : i < n) (k : Nat) :
    (∃ k', it f k i = it (byp n f) k' i) ∨ (it f k i = n ∧ f n ≠ n ∧ ∃ k', f n = it (byp n f) k' i) := by
  have hb := byp_bij h
  induction k with
  | zero => exact .inl ⟨0, rfl⟩
  | succ k ih =>
    rcases ih with ⟨k', e⟩ | ⟨e1, e2, k', e3⟩
    · have hz := it_lt hb k' hi
      by_cases c : f (it f k i) = n
      · right
        have d : f n ≠ n := by
          intro d
          have := h.2 (it f k i) n (by omega) (by omega) (by omega)
          omega
        refine ⟨c, d, k' + 1, ?_⟩
        show f n = byp n f (it (byp n f) k' i)
        unfold byp at e ⊢
        rw [← e, if_pos c]
      · left
        refine ⟨k' + 1, ?_⟩
        show f (it f k i) = byp n f (it (byp n f) k' i)
        rw [← e]
        show _ = byp n f (it f k i)
        unfold byp
        rw [if_neg c]
    · left
      refine ⟨k', ?_⟩
      show f (it f k i) = _
      rw [e1]; exact e3

theorem isMin_byp {n : Nat} {f : Nat → Nat} (h : Bij (n + 1) f) {i : Nat} (hi : i < n) : isMin (n + 1) f i = isMin n (byp n f) i := by
  rw [Bool.eq_iff_iff, isMin_iff h (by omega), isMin_iff (byp_bij h) hi]
  constructor
  · intro a k
    obtain ⟨k', e⟩ := byp_reach h hi k
    rw [e]; exact a k'
  · intro a k
    rcases reach_byp h hi k with ⟨k', e⟩ | ⟨e, _, _⟩
    · rw [e]; exact a k'
    · omega

theorem it_fix {f : Nat → Nat} {x : Nat} (h : f x = x) (k : Nat) : it f k x = x := by
  induction k with
  | zero => rfl
  | succ k ih => show f (it f k x) = x; rw [ih, h]

theorem isMin_last {n : Nat} {f : Nat → Nat} (h : Bij (n + 1) f) : isMin (n + 1) f n = decide (f n = n) := by
  rw [Bool.eq_iff_iff, isMin_iff h (by omega)]
  constructor
  · intro a
    have b := a 1
    have c := h.1 n (by omega)
    simp [it] at b ⊢
    omega
  · intro a k
    rw [it_fix (by simpa using a)]; exact Nat.le_refl _

theorem cc_succ {n : Nat} {f : Nat → Nat} (h : Bij (n + 1) f) : cc (n + 1) f = cc n (byp n f) + (if f n = n then 1 else 0) := by
  unfold cc
  rw [List.range_succ, List.filter_append, List.length_append]
  congr 1
  · rw [List.filter_congr (fun i hi => isMin_byp h (by simpa using hi))]
  · simp only [List.filter_cons, List.filter_nil, isMin_last h]
    by_cases c : f n = n <;> simp [c]

theorem isMin_congr {n : Nat} {f g : Nat → Nat} (hf : Bij n f) (e : ∀ i, i < n → f i = g i) {i : Nat} (hi : i < n) : isMin n f i = isMin n g i := by
  have : ∀ k, it f k i = it g k i := by
    intro k
    induction k with
    | zero => rfl
    | succ k ih => show f (it f k i) = g (it g k i); rw [← ih, e _ (it_lt hf k hi)]
  unfold isMin
  congr 1; funext k; rw [this]

theorem cc_congr {n : Nat} {f g : Nat → Nat} (hf : Bij n f) (e : ∀ i, i < n → f i = g i) : cc n f = cc n g := by
  unfold cc
  rw [List.filter_congr (fun i hi => isMin_congr hf e (by simpa using hi))]

theorem cc_odd {n : Nat} {f : Nat → Nat} (h : Bij n f) : (n - cc n f) % 2 = (odd n f).toNat := by
  induction n generalizing f with
  | zero => rfl
  | succ n ih =>
    have hb := byp_bij h
    have i1 := ih hb
    have le := cc_le n (byp n f)
    rw [cc_succ h]
    by_cases c : f n = n
    · rw [if_pos c]
      have e : ∀ i, i < n → byp n f i = f i := by
        intro i hi
        unfold byp
        rw [if_neg]
        intro d
        have := h.2 i n (by omega) (by omega) (by omega)
        omega
      rw [odd_congr e] at i1
      have : odd (n + 1) f = odd n f := by
        unfold odd
        rw [List.range_succ, px_snoc, xs_false]
        · simp
        · intro i hi
          have hi' : i < n := by simpa using hi
          have := h.1 i (by omega)
          simp; omega
      rw [this, ← i1]
      omega
    · rw [if_neg c]
      obtain ⟨i, hi, e⟩ := surj h n (by omega)
      have hin : i < n := by
        apply Nat.lt_of_le_of_ne (by omega)
        intro d; subst d; exact c e
      let F : Nat → Nat := fun j => if j = n then n else byp n f j
      have hF : Bij (n + 1) F := by
        constructor
        · intro j hj; show (if j = n then n else byp n f j) < n + 1
          split
          · omega
          · have := hb.1 j (by omega); omega
        · intro a b ha hb' e2
          have e3 : (if a = n then n else byp n f a) = (if b = n then n else byp n f b) := e2
          by_cases c1 : a = n <;> by_cases c2 : b = n
          · omega
          · rw [if_pos c1, if_neg c2] at e3; have := hb.1 b (by omega); omega
          · rw [if_neg c1, if_pos c2] at e3; have := hb.1 a (by omega); omega
          · rw [if_neg c1, if_neg c2] at e3; exact hb.2 a b (by omega) (by omega) e3
      have e1 : ∀ j, j < n + 1 → f j = F (swp i n j) := by
        intro j hj
        show f j = if swp i n j = n then n else byp n f (swp i n j)
        by_cases c1 : j = i
        · have : swp i n j = n := by unfold swp; rw [if_pos c1]
          rw [if_pos this, c1, e]
        · by_cases c2 : j = n
          · have : swp i n j = i := by unfold swp; rw [if_neg c1, if_pos c2]
            rw [this, if_neg (by omega)]
            unfold byp; rw [if_pos e, c2]
          · have : swp i n j = j := by unfold swp; rw [if_neg c1, if_neg c2]
            rw [this, if_neg c2]
            unfold byp
            rw [if_neg]
            intro d
            exact c1 (h.2 j i hj (by omega) (by omega))
      have o1 := odd_congr e1
      have o2 := odd_comp (swp_bij (n := n + 1) (a := i) (b := n) (by omega) (by omega)) hF
      rw [odd_swp hin] at o2
      have o3 : odd (n + 1) F = odd n (byp n f) := by
        have : odd n F = odd n (byp n f) := odd_congr (fun j hj => by show (if j = n then n else byp n f j) = _; rw [if_neg (by omega)])
        rw [← this]
        unfold odd
        rw [List.range_succ, px_snoc, xs_false]
        · simp
        · intro j hj
          have hj' : j < n := by simpa using hj
          have := hF.1 j (by omega)
          have e4 : F n = n := by show (if n = n then n else byp n f n) = n; rw [if_pos rfl]
          rw [e4]
          simp; omega
      rw [o1, o2, o3]
      have : n + 1 - (cc n (byp n f) + 0) = (n - cc n (byp n f)) + 1 := by omega
      rw [this]
      cases d : odd n (byp n f) <;> rw [d] at i1 <;> simp at i1 ⊢ <;> omega

/-- the sign -/
def sgn (n : Nat) (f : Nat → Nat) : Int := if (n - cc n f) % 2 = 0 then 1 else -1

theorem sgn_odd {n : Nat} {f : Nat → Nat} (h : Bij n f) : sgn n f = if odd n f = true then -1 else 1 := by
  unfold sgn
  rw [cc_odd h]
  cases odd n f <;> rfl

theorem sgn_comp {n : Nat} {f g : Nat → Nat} (hf : Bij n f) (hg : Bij n g) : sgn n (fun i => g (f i)) = sgn n f * sgn n g := by
  rw [sgn_odd hf, sgn_odd hg, sgn_odd (comp_bij hf hg), odd_comp hf hg]
  cases odd n f <;> cases odd n g <;> rfl

/-- the points that f leads to from x -/
def orb (f : Nat → Nat) (x y : Nat) : Prop := ∃ k, it f k x = y

theorem orb_trans {f : Nat → Nat} {x y z : Nat} : orb f x y → orb f y z → orb f x z := by
  rintro ⟨a, rfl⟩ ⟨b, rfl⟩
  exact ⟨b + a, it_add f b a x⟩

theorem orb_symm {n : Nat} {f : Nat → Nat} (h : Bij n f) {x y : Nat} (hx : x < n) : orb f x y → orb f y x := by
  rintro ⟨k, rfl⟩
  have p := per_spec h hx
  refine ⟨per n f x - k % per n f x, ?_⟩
  rw [it_mod_per h hx k, ← it_add]
  have := Nat.mod_lt k p.1
  rw [show per n f x - k % per n f x + k % per n f x = per n f x by omega]
  exact p.2.2.1

/-- the cycle of x, from x on -/
def cyc (n : Nat) (f : Nat → Nat) (x : Nat) : List Nat := (List.range (per n f x)).map (fun k => it f k x)

theorem it_inj_per {n : Nat} {f : Nat → Nat} (h : Bij n f) {x : Nat} (hx : x < n) {a b : Nat} (ha : a < per n f x) (hb : b < per n f x) (e : it f a x = it f b x) : a = b := by
  have key : ∀ a b, a < b → b < per n f x → it f a x = it f b x → False := by
    intro a b hab hb e
    have : it f (a + (b - a)) x = it f a (it f (b - a) x) := it_add ..
    rw [show a + (b - a) = b by omega, ← e] at this
    exact (per_spec h hx).2.2.2 (b - a) (by omega) (by omega) (it_inj h a hx (it_lt h _ hx) this).symm
  rcases Nat.lt_trichotomy a b with c | c | c
  · exact (key a b c hb e).elim
  · exact c
  · exact (key b a c ha e.symm).elim

theorem isMin_iff' {n : Nat} {f : Nat → Nat} (h : Bij n f) {i : Nat} (hi : i < n) : isMin n f i = true ↔ ∀ j, j < i → ¬ orb f j i := by
  rw [isMin_iff h hi]
  constructor
  · rintro a j hj ⟨k, e⟩
    obtain ⟨k', e'⟩ := orb_symm h (by omega : j < n) ⟨k, e⟩
    have := a k'
    omega
  · intro a k
    apply Nat.le_of_not_lt
    intro hlt
    exact a _ hlt (orb_symm h hi ⟨k, rfl⟩)

/-- the least points of the cycles -/
def mins (n : Nat) (f : Nat → Nat) : List Nat := (List.range n).filter (isMin n f)

/-- how many cycles have the length L -/
def cl (n : Nat) (f : Nat → Nat) (L : Nat) : Nat := (mins n f).countP (fun m => per n f m == L)

/-- no coloring that both keep tells i from j -/
def conn (n : Nat) (a b : Nat → Nat) (i j : Nat) : Prop := ∀ c : Nat → Nat, (∀ x, x < n → c (a x) = c x ∧ c (b x) = c x) → c i = c j

/-- o tells the least point that each point leads to -/
structure IsOrb (n : Nat) (a b o : Nat → Nat) : Prop where
  keep : ∀ x, x < n → o (a x) = o x ∧ o (b x) = o x
  le : ∀ x, x < n → o x ≤ x
  conn : ∀ x, x < n → conn n a b x (o x)

/-- a point's least one leads nowhere lower -/
theorem IsOrb.min {n : Nat} {a b o : Nat → Nat} (h : IsOrb n a b o) {x y : Nat} (hx : x < n) (hy : y < n) (hc : Sm.conn n a b x y) : o x ≤ y := by
  have := hc o h.keep
  rw [this]; exact h.le y hy

/-- keeps to the edges: zero at a dart, alike on a vertex, at most one more over an edge -/
structure Lip (n : Nat) (t s : Nat → Nat) (a : Nat) (D : Nat → Nat) : Prop where
  zero : D a = 0
  turn : ∀ x, x < n → D (t x) = D x
  edge : ∀ x, x < n → D x ≤ D (s x) + 1

structure IsDist (n : Nat) (t s : Nat → Nat) (a : Nat) (D : Nat → Nat) : Prop where
  lip : Lip n t s a D
  w0 : ∀ x, x < n → D x = 0 → orb t a x
  w1 : ∀ x m, x < n → D x = m + 1 → ∃ y, y < n ∧ orb t x y ∧ D (s y) = m

theorem Lip.orb {n : Nat} {t s : Nat → Nat} {a : Nat} {D : Nat → Nat} (h : Lip n t s a D) (ht : Bij n t) {x y : Nat} (hx : x < n) (o : orb t x y) : D y = D x := by
  obtain ⟨k, rfl⟩ := o
  induction k with
  | zero => rfl
  | succ k ih => show D (t (it t k x)) = D x; rw [h.turn _ (it_lt ht k hx), ih]

/-- nothing that keeps to the edges is greater -/
theorem IsDist.max {n : Nat} {t s : Nat → Nat} {a : Nat} {D E : Nat → Nat} (ht : Bij n t) (hs : Bij n s) (ha : a < n) (h : IsDist n t s a D) (e : Lip n t s a E) : ∀ x, x < n → E x ≤ D x := by
  have key : ∀ m x, x < n → D x = m → E x ≤ m := by
    intro m
    induction m with
    | zero =>
      intro x hx d
      have := e.orb ht ha (h.w0 x hx d)
      rw [this, e.zero]; exact Nat.le_refl _
    | succ m ih =>
      intro x hx d
      obtain ⟨y, hy, o, d2⟩ := h.w1 x m hx d
      have i := ih (s y) (hs.1 y hy) d2
      have j := e.edge y hy
      have k := e.orb ht hx o
      omega
  intro x hx
  exact key _ x hx rfl

/-- a renaming from one map to another one -/
structure Iso (n : Nat) (t s t' s' g : Nat → Nat) : Prop where
  bij : Bij n g
  et : ∀ x, x < n → t' (g x) = g (t x)
  es : ∀ x, x < n → s' (g x) = g (s x)

theorem Iso.symm {n : Nat} {t s t' s' g : Nat → Nat} (i : Iso n t s t' s' g) (ht : Bij n t) (hs : Bij n s) : Iso n t' s' t s (finv n g) := by
  refine ⟨finv_bij i.bij, fun x hx => ?_, fun x hx => ?_⟩
  · obtain ⟨a, ha, rfl⟩ := surj i.bij x hx
    rw [finv_left i.bij ha, i.et a ha, finv_left i.bij (ht.1 a ha)]
  · obtain ⟨a, ha, rfl⟩ := surj i.bij x hx
    rw [finv_left i.bij ha, i.es a ha, finv_left i.bij (hs.1 a ha)]
end Go.Proofs.Ytknkefjleinkkaa.Sm
namespace Go.Proofs.Ytknkefjleinkkaa.R
open Go.RowKit Go.Proofs.YtknkefjleinkkaaW.PrintWords Go.Proofs.YtknkefjleinkkaaW.PrintLast Go.Proofs.YtknkefjleinkkaaW.PrintMore Go.Proofs.Ytknkefjleinkkaa.F Go.Proofs.Ytknkefjleinkkaa.Sm
theorem Ev.pos {α : Type} {c : Prop} [Decidable c] {A B : Nat → Option α} {r : α} (h : c) (k : Ev A r) : Ev (fun n => if c then A n else B n) r := by
  simp only [if_pos h]; exact k

theorem Ev.neg {α : Type} {c : Prop} [Decidable c] {A B : Nat → Option α} {r : α} (h : ¬ c) (k : Ev B r) : Ev (fun n => if c then A n else B n) r := by
  simp only [if_neg h]; exact k

theorem Ev.bind1 {α β : Type} {g : Nat → Option α} {f : Nat → α → Option β} {a : α} {r : β} (h : Ev g a) (k : Ev (fun n => f n a) r) : Ev (fun n => (g n).bind (f n)) r := Ev.bind h k

theorem Ev.some1 {α β : Type} {f : Nat → α → Option β} {a : α} {r : β} (k : Ev (fun n => f n a) r) : Ev (fun n => (some a).bind (f n)) r := k

theorem wrap_nat {i : Nat} (h : i < 9223372036854775807) : wrap64 ((i : Int) + 1) = ((i + 1 : Nat) : Int) := by unfold wrap64; omega

theorem wrap_in {n : Int} (h1 : -9223372036854775808 ≤ n) (h2 : n ≤ 9223372036854775807) : wrap64 n = n := by unfold wrap64; omega

theorem rd_get {l : List Int} {i : Nat} (h : i < l.length) : rd l (i : Int) = l[i] := by
  unfold rd; simp [h]

theorem rd_pm {n : Nat} {f : Nat → Nat} {i : Nat} (h : i < n) : rd (pm n f) (i : Int) = (f i : Int) := by
  unfold rd; exact pm_getD n f i h

/-- a list that is a permutation -/
def IsPerm (n : Nat) (l : List Int) (f : Nat → Nat) : Prop := 1 ≤ n ∧ n ≤ 12 ∧ Bij n f ∧ l = pm n f

theorem valid_iff (l : List Int) : impl_PermValid.validB l = true ↔ ∃ f, IsPerm l.length l f := by
  unfold impl_PermValid.validB
  simp only [Bool.and_eq_true, decide_eq_true_eq, List.all_eq_true, List.mem_range]
  constructor
  · rintro ⟨⟨h1, h2⟩, h3⟩
    have h3' : ∀ i, i < l.length → 0 ≤ rd l i ∧ rd l i < l.length ∧ ∀ j, j < i → rd l j ≠ rd l i := by
      intro i hi
      have := h3 i hi
      unfold impl_PermValid.okAt at this
      simp only [Bool.and_eq_true, decide_eq_true_eq, Bool.not_eq_true', List.contains_eq_mem, decide_eq_false_iff_not] at this
      refine ⟨this.1.1, this.1.2, fun j hj e => this.2 ?_⟩
      rw [← e, rd_get (show j < l.length by omega)]
      rw [List.mem_iff_getElem]
      exact ⟨j, by simp; omega, by simp⟩
    refine ⟨fun i => (rd l i).toNat, h1, h2, ⟨fun i hi => by have := h3' i hi; show (rd l i).toNat < _; omega, fun i j hi hj e => ?_⟩, ?_⟩
    · have a := h3' i hi
      have b := h3' j hj
      have e' : (rd l i).toNat = (rd l j).toNat := e
      rcases Nat.lt_trichotomy i j with c | c | c
      · exact (b.2.2 i c (by omega)).elim
      · exact c
      · exact (a.2.2 j c (by omega)).elim
    · refine eq_pm _ _ _ rfl fun i hi => ?_
      have := h3' i hi
      show l.getD i 0 = (((rd l i).toNat : Nat) : Int)
      have e : l.getD i 0 = rd l i := rfl
      omega
  · rintro ⟨f, h1, h2, hf, e⟩
    refine ⟨⟨h1, h2⟩, fun i hi => ?_⟩
    have r : ∀ j, j < l.length → rd l j = (f j : Int) := fun j hj => by
      have := rd_pm (n := l.length) (f := f) hj
      rwa [← e] at this
    unfold impl_PermValid.okAt
    simp only [Bool.and_eq_true, decide_eq_true_eq, Bool.not_eq_true', List.contains_eq_mem, decide_eq_false_iff_not]
    refine ⟨⟨by rw [r i hi]; omega, by rw [r i hi]; have := hf.1 i hi; omega⟩, fun hm => ?_⟩
    rw [List.mem_iff_getElem] at hm
    obtain ⟨j, hj, ej⟩ := hm
    have hj' : j < i := by simp at hj; omega
    have : l[j]'(by omega) = rd l i := by simpa using ej
    rw [← rd_get (show j < l.length by omega), r i hi, r j (by omega)] at this
    have := hf.2 j i (by omega) hi (by omega)
    omega

theorem implValid_ev (l : List Int) : Ev (fun _ => impl_PermValid.f l) (impl_PermValid.validB l) := Ev.now _

/-- the reference's look: up to i all is well -/
theorem specValid_ev (l : List Int) (hl : l.length ≤ 4294967296) : Ev (fun k => spec_PermValid.f k l) (impl_PermValid.validB l) := by
  have e0 : ∀ (a b c : Int), spec_l6In.f a b c = some (decide (b ≤ a) && decide (a ≤ c)) := by
    intro a b c
    unfold spec_l6In.f
    by_cases h : b ≤ a
    · rw [if_pos h]; simp [h]
    · rw [if_neg h]; simp [h]
  -- the inner loop
  have inner : ∀ d i j, i < l.length → j + d = i → (∀ m, m < j → rd l m ≠ rd l i) → ∀ r, ((∀ m, m < i → rd l m ≠ rd l i) → Ev (fun k => spec_PermValid.l0 k l ((i + 1 : Nat) : Int)) r) → ((∃ m, m < i ∧ rd l m = rd l i) → r = false) → Ev (fun k => spec_PermValid.l1 k l (i : Int) (j : Int)) r := by
    intro d
    induction d with
    | zero =>
      intro i j hi hj hm r h1 h2
      refine Ev.step (f := fun k => spec_PermValid.l0 k l ((i + 1 : Nat) : Int)) (fun k => by rw [spec_PermValid.l1, if_neg (by omega), wrap_nat (by omega)]) ?_
      exact h1 (fun m hmi => hm m (by omega))
    | succ d ih =>
      intro i j hi hj hm r h1 h2
      by_cases c : rd l (j : Int) = rd l (i : Int)
      · have := h2 ⟨j, by omega, c⟩
        subst this
        refine Ev.step (f := fun k => some false) (fun k => by
          rw [spec_PermValid.l1, if_pos (by omega), if_pos (by omega), if_pos (by omega), if_pos (by omega), if_pos (by omega), if_pos c]) (Ev.now _)
      · refine Ev.step (f := fun k => spec_PermValid.l1 k l (i : Int) ((j + 1 : Nat) : Int)) (fun k => by
          rw [spec_PermValid.l1, if_pos (by omega), if_pos (by omega), if_pos (by omega), if_pos (by omega), if_pos (by omega), if_neg c, wrap_nat (by omega)]) ?_
        refine ih i (j + 1) hi (by omega) (fun m hm' => ?_) r h1 h2
        by_cases e : m = j
        · subst e; exact c
        · exact hm m (by omega)
  have outer : ∀ d i, i + d = l.length → (∀ m, m < i → impl_PermValid.okAt l m = true) → Ev (fun k => spec_PermValid.l0 k l (i : Int)) (impl_PermValid.validB l) := by
    intro d
    induction d with
    | zero =>
      intro i hi hm
      have e : impl_PermValid.validB l = (decide ((1 : Int) ≤ (l.length : Int)) && decide ((l.length : Int) ≤ 12)) := by
        unfold impl_PermValid.validB
        have : (List.range l.length).all (impl_PermValid.okAt l) = true := by
          rw [List.all_eq_true]; intro m hm'; exact hm m (by have := List.mem_range.1 hm'; omega)
        rw [this]
        rw [Bool.and_true]
        congr 1
        · simp; omega
        · simp; omega
      refine Ev.step (f := fun _ => some (impl_PermValid.validB l)) (fun k => by rw [spec_PermValid.l0, if_neg (by omega), e0, e]; rfl) (Ev.now _)
    | succ d ih =>
      intro i hi hm
      have hil : i < l.length := by omega
      have fail : impl_PermValid.okAt l i = false → impl_PermValid.validB l = false := impl_PermValid.valid_fail l i hil
      have ew : wrap64 ((l.length : Int) - 1) = (l.length : Int) - 1 := wrap_in (by omega) (by omega)
      by_cases c : 0 ≤ rd l (i : Int) ∧ rd l (i : Int) ≤ (l.length : Int) - 1
      · refine Ev.step (f := fun k => spec_PermValid.l1 k l (i : Int) ((0 : Nat) : Int)) (fun k => by
          rw [spec_PermValid.l0, if_pos (by omega), if_pos (by omega), e0, ew]
          simp only [Option.bind_some]
          rw [if_pos (by simp [c.1, c.2])]; rfl) ?_
        refine inner i i 0 hil (by omega) (fun m hm' => absurd hm' (by omega)) _ (fun hd => ?_) (fun hd => ?_)
        · refine ih (i + 1) (by omega) (fun m hm' => ?_)
          by_cases e : m = i
          · subst e
            unfold impl_PermValid.okAt
            simp only [Bool.and_eq_true, decide_eq_true_eq, Bool.not_eq_true', List.contains_eq_mem, decide_eq_false_iff_not]
            refine ⟨⟨c.1, by omega⟩, fun hx => ?_⟩
            rw [List.mem_iff_getElem] at hx
            obtain ⟨j, hj, ej⟩ := hx
            have hj' : j < m := by simp at hj; omega
            have : l[j]'(by omega) = rd l m := by simpa using ej
            rw [← rd_get (show j < l.length by omega)] at this
            exact hd j hj' this
          · exact hm m (by omega)
        · obtain ⟨m, hmi, em⟩ := hd
          apply fail
          unfold impl_PermValid.okAt
          have : (l.take i).contains (rd l i) = true := by
            rw [List.contains_eq_mem, decide_eq_true_eq, ← em, rd_get (show m < l.length by omega), List.mem_iff_getElem]
            exact ⟨m, by simp; omega, by simp⟩
          simp only [this, Bool.not_true, Bool.and_false]
      · have : impl_PermValid.validB l = false := by
          apply fail
          unfold impl_PermValid.okAt
          by_cases c1 : 0 ≤ rd l (i : Int)
          · have : ¬ rd l (i : Int) < l.length := by omega
            simp [this]
          · simp [c1]
        rw [this]
        refine Ev.step (f := fun k => some false) (fun k => by
          rw [spec_PermValid.l0, if_pos (by omega), if_pos (by omega), e0, ew]
          simp only [Option.bind_some]
          rw [if_neg]
          simp only [Bool.and_eq_true, decide_eq_true_eq]
          exact c) (Ev.now _)
  unfold spec_PermValid.f
  exact outer l.length 0 (by omega) (fun m hm => absurd hm (by omega))

theorem rd_set {s : List Int} {a b : Nat} {v : Int} (h : a < s.length) : rd (s.set a v) (b : Int) = if a = b then v else rd s (b : Int) := by
  unfold rd
  simp only [Int.toNat_natCast, List.getD_eq_getElem?_getD, List.getElem?_set]
  by_cases e : a = b
  · subst e; simp [h]
  · simp [e]

theorem eq_pm' {n : Nat} {f : Nat → Nat} {l : List Int} (hl : l.length = n) (h : ∀ i, i < n → rd l (i : Int) = (f i : Int)) : l = pm n f :=
  eq_pm n f l hl fun i hi => by have := h i hi; unfold rd at this; simpa using this

theorem sameInts_loop (a b : List Int) (hl : a.length = b.length) (hb : a.length ≤ 4294967296) : ∀ d i, i + d = a.length → Ev (fun k => laws_sameInts.l0 k a b (i : Int)) (decide (a.drop i = b.drop i)) := by
  intro d
  induction d with
  | zero =>
    intro i hi
    refine Ev.step (f := fun _ => some true) (fun k => by rw [laws_sameInts.l0, if_neg (by omega)]) ?_
    rw [List.drop_of_length_le (by omega), List.drop_of_length_le (by omega)]
    exact Ev.now _
  | succ d ih =>
    intro i hi
    have ha : i < a.length := by omega
    have hb' : i < b.length := by omega
    rw [List.drop_eq_getElem_cons ha, List.drop_eq_getElem_cons hb']
    by_cases c : a[i] = b[i]
    · refine Ev.step (f := fun k => laws_sameInts.l0 k a b ((i + 1 : Nat) : Int)) (fun k => by
        rw [laws_sameInts.l0, if_pos (by omega), if_pos (by omega), if_pos (by omega), rd_get ha, rd_get hb', if_pos c, wrap_nat (by omega)]) ?_
      have e : decide (a[i] :: a.drop (i + 1) = b[i] :: b.drop (i + 1)) = decide (a.drop (i + 1) = b.drop (i + 1)) := by
        simp only [List.cons.injEq, c, true_and]
      rw [e]
      exact ih (i + 1) (by omega)
    · refine Ev.step (f := fun k => some false) (fun k => by
        rw [laws_sameInts.l0, if_pos (by omega), if_pos (by omega), if_pos (by omega), rd_get ha, rd_get hb', if_neg c]) ?_
      have : decide (a[i] :: a.drop (i + 1) = b[i] :: b.drop (i + 1)) = false := by
        simp only [List.cons.injEq, c, false_and, decide_false]
      rw [this]
      exact Ev.now _

theorem sameInts_ev {a b : List Int} (hb : a.length ≤ 4294967296) : Ev (fun k => laws_sameInts.f k a b) (decide (a = b)) := by
  unfold laws_sameInts.f
  by_cases c : a.length = b.length
  · refine Ev.pos (by omega) ?_
    exact sameInts_loop a b c hb a.length 0 (by omega)
  · have : decide (a = b) = false := by simp; intro e; exact c (by rw [e])
    rw [this]
    exact Ev.neg (by omega) (Ev.now _)

theorem mul_ev {n : Nat} {f g : Nat → Nat} (hn : n ≤ 1000) (hf : ∀ i, i < n → f i < n) : Ev (fun k => impl_mul.f k (pm n f) (pm n g)) (pm n fun i => g (f i)) := by
  have loop : ∀ d i (s : List Int), i + d = n → s.length = n → (∀ j, j < i → rd s (j : Int) = (g (f j) : Int)) → Ev (fun k => impl_mul.l0 k (pm n g) s (pm n f) (n : Int) (i : Int)) (pm n fun i => g (f i)) := by
    intro d
    induction d with
    | zero =>
      intro i s hi hs h
      refine Ev.step (f := fun _ => some s) (fun k => by rw [impl_mul.l0, if_neg (by omega)]) ?_
      rw [eq_pm' (f := fun i => g (f i)) hs (fun j hj => h j (by omega))]
      exact Ev.now _
    | succ d ih =>
      intro i s hi hs h
      have hfi := hf i (by omega)
      refine Ev.step (f := fun k => impl_mul.l0 k (pm n g) (s.set i (g (f i) : Int)) (pm n f) (n : Int) ((i + 1 : Nat) : Int)) (fun k => by
        rw [impl_mul.l0, if_pos (by omega), if_pos (by omega), if_pos (by rw [pm_length]; omega), rd_pm (by omega), if_pos (by omega), if_pos (by rw [pm_length]; omega), if_pos (by omega), wrap_nat (by omega), rd_pm hfi]; rfl) ?_
      refine ih (i + 1) _ (by omega) (by simp [hs]) (fun j hj => ?_)
      rw [rd_set (by omega)]
      by_cases e : i = j
      · rw [if_pos e, e]
      · rw [if_neg e]; exact h j (by omega)
  unfold impl_mul.f
  simp only [pm_length]
  refine Ev.pos (by omega) (Ev.pos (by omega) ?_)
  have := loop n 0 (List.replicate n 0) (by omega) (by simp) (fun j hj => absurd hj (by omega))
  simpa using this

theorem l1Mul_ev {n : Nat} {f g : Nat → Nat} (hn : n ≤ 1000) (hf : ∀ i, i < n → f i < n) : Ev (fun k => spec_l1Mul.f k (pm n f) (pm n g)) (pm n fun i => g (f i)) := by
  have loop : ∀ d i, i + d = n → Ev (fun k => spec_l1Mul.l0 k (pm n f) (pm n g) (pm i fun i => g (f i)) (i : Int)) (pm n fun i => g (f i)) := by
    intro d
    induction d with
    | zero =>
      intro i hi
      have e : i = n := by omega
      subst e
      exact Ev.step (f := fun _ => some (pm i fun i => g (f i))) (fun k => by rw [spec_l1Mul.l0, if_neg (by rw [pm_length]; omega)]) (Ev.now _)
    | succ d ih =>
      intro i hi
      have hfi := hf i (by omega)
      refine Ev.step (f := fun k => spec_l1Mul.l0 k (pm n f) (pm n g) (pm (i + 1) fun i => g (f i)) ((i + 1 : Nat) : Int)) (fun k => by
        rw [spec_l1Mul.l0, if_pos (by rw [pm_length]; omega), if_pos (by omega), rd_pm (by omega), if_pos (by omega), if_pos (by rw [pm_length]; omega), if_pos (by rw [pm_length]; omega), wrap_nat (by omega), rd_pm hfi]
        simp [pm, List.range_succ]) (ih (i + 1) (by omega))
  unfold spec_l1Mul.f
  exact loop n 0 (by omega)

theorem back_end {n : Nat} {f : Nat → Nat} (hf : Bij n f) {s : List Int} (hs : s.length = n) (h : ∀ j, j < n → rd s (f j : Int) = (j : Int)) : s = pm n (finv n f) := by
  refine eq_pm' hs fun y hy => ?_
  obtain ⟨h1, h2⟩ := finv_spec hf hy
  have := h _ h1
  rwa [h2] at this

theorem back_step {n : Nat} {f : Nat → Nat} (hf : Bij n f) {s : List Int} (hs : s.length = n) {i : Nat} (hi : i < n) (h : ∀ j, j < i → rd s (f j : Int) = (j : Int)) : ∀ j, j < i + 1 → rd (s.set (f i) (i : Int)) (f j : Int) = (j : Int) := by
  intro j hj
  rw [rd_set (by have := hf.1 i hi; omega)]
  by_cases e : i = j
  · subst e; rw [if_pos rfl]
  · rw [if_neg (fun d => e (hf.2 i j hi (by omega) d))]; exact h j (by omega)

theorem back_ev {n : Nat} {f : Nat → Nat} (hn : n ≤ 1000) (hf : Bij n f) : Ev (fun k => impl_back.f k (pm n f)) (pm n (finv n f)) := by
  have loop : ∀ d i (s : List Int), i + d = n → s.length = n → (∀ j, j < i → rd s (f j : Int) = (j : Int)) → Ev (fun k => impl_back.l0 k s (pm n f) (n : Int) (i : Int)) (pm n (finv n f)) := by
    intro d
    induction d with
    | zero =>
      intro i s hi hs h
      refine Ev.step (f := fun _ => some s) (fun k => by rw [impl_back.l0, if_neg (by omega)]) ?_
      rw [back_end hf hs (fun j hj => h j (by omega))]
      exact Ev.now _
    | succ d ih =>
      intro i s hi hs h
      have hfi := hf.1 i (by omega)
      refine Ev.step (f := fun k => impl_back.l0 k (s.set (f i) (i : Int)) (pm n f) (n : Int) ((i + 1 : Nat) : Int)) (fun k => by
        rw [impl_back.l0, if_pos (by omega), if_pos (by omega), if_pos (by rw [pm_length]; omega), rd_pm (by omega), if_pos (by omega), if_pos (by omega), wrap_nat (by omega)]; rfl) ?_
      exact ih (i + 1) _ (by omega) (by simp [hs]) (back_step hf hs (by omega) h)
  unfold impl_back.f
  simp only [pm_length]
  refine Ev.pos (by omega) (Ev.pos (by omega) ?_)
  have := loop n 0 (List.replicate n 0) (by omega) (by simp) (fun j hj => absurd hj (by omega))
  simpa using this

/-- two lists that are permutations of as many points -/
def both (a b : List Int) : Bool := impl_PermValid.validB a && impl_PermValid.validB b && decide (a.length = b.length)

theorem both_iff (a b : List Int) : both a b = true ↔ ∃ n f g, IsPerm n a f ∧ IsPerm n b g := by
  unfold both
  simp only [Bool.and_eq_true, decide_eq_true_eq, valid_iff]
  constructor
  · rintro ⟨⟨⟨f, hf⟩, g, hg⟩, e⟩
    rw [← e] at hg
    exact ⟨_, f, g, hf, hg⟩
  · rintro ⟨n, f, g, hf, hg⟩
    have e1 : a.length = n := by rw [hf.2.2.2, pm_length]
    have e2 : b.length = n := by rw [hg.2.2.2, pm_length]
    rw [e1, e2]
    exact ⟨⟨⟨f, hf⟩, g, hg⟩, rfl⟩

theorem l1Both_ev {a b : List Int} (ha : a.length ≤ 4294967296) (hb : b.length ≤ 4294967296) : Ev (fun k => spec_l1Both.f k a b) (both a b) := by
  unfold spec_l1Both.f both
  refine Ev.bind1 (specValid_ev a ha) ?_
  cases c : impl_PermValid.validB a with
  | false => exact Ev.neg (by simp) (Ev.now _)
  | true =>
    refine Ev.pos rfl (Ev.bind1 (specValid_ev b hb) ?_)
    cases d : impl_PermValid.validB b with
    | false => exact Ev.neg (by simp) (Ev.now _)
    | true =>
      refine Ev.pos rfl ?_
      have : ((a.length : Int) == (b.length : Int)) = (true && true && decide (a.length = b.length)) := by
        by_cases e : a.length = b.length
        · simp [e]
        · have : ¬ (a.length : Int) = (b.length : Int) := by omega
          simp [e, this]
      rw [this]
      exact Ev.now _

/-- the product, or no answer -/
noncomputable def mulR (a b : List Int) : List Int × Bool := if both a b = true then (a.map (fun x => rd b x), true) else ([], false)

theorem pm_map {n : Nat} {f g : Nat → Nat} (hf : ∀ i, i < n → f i < n) : (pm n f).map (fun x => rd (pm n g) x) = pm n fun i => g (f i) := by
  unfold pm
  rw [List.map_map]
  apply List.map_congr_left
  intro i hi
  show rd (pm n g) ((f i : Nat) : Int) = _
  rw [rd_pm (hf i (by simpa using hi))]

theorem specMul_ev {a b : List Int} (ha : a.length ≤ 4294967296) (hb : b.length ≤ 4294967296) : Ev (fun k => spec_PermMul.f k a b) (mulR a b) := by
  unfold spec_PermMul.f mulR
  refine Ev.bind1 (l1Both_ev ha hb) ?_
  by_cases c : both a b = true
  · rw [if_pos c]
    refine Ev.pos c ?_
    obtain ⟨n, f, g, hf, hg⟩ := (both_iff a b).1 c
    rw [hf.2.2.2, hg.2.2.2, pm_map hf.2.2.1.1]
    exact Ev.bind1 (l1Mul_ev (by have := hf.2.1; omega) hf.2.2.1.1) (Ev.now _)
  · rw [if_neg c]
    exact Ev.neg c (Ev.now _)

theorem implMul_ev (a b : List Int) : Ev (fun k => impl_PermMul.f k a b) (mulR a b) := by
  unfold impl_PermMul.f mulR
  refine Ev.bind1 (implValid_ev a) ?_
  by_cases c : both a b = true
  · rw [if_pos c]
    obtain ⟨n, f, g, hf, hg⟩ := (both_iff a b).1 c
    have c1 : impl_PermValid.validB a = true := by unfold both at c; simp only [Bool.and_eq_true] at c; exact c.1.1
    have c2 : impl_PermValid.validB b = true := by unfold both at c; simp only [Bool.and_eq_true] at c; exact c.1.2
    have c3 : a.length = b.length := by unfold both at c; simp only [Bool.and_eq_true, decide_eq_true_eq] at c; exact c.2
    refine Ev.pos c1 (Ev.bind1 (implValid_ev b) (Ev.pos c2 (Ev.pos (by omega) ?_)))
    rw [hf.2.2.2, hg.2.2.2, pm_map hf.2.2.1.1]
    exact Ev.bind1 (mul_ev (by have := hf.2.1; omega) hf.2.2.1.1) (Ev.now _)
  · rw [if_neg c]
    by_cases c1 : impl_PermValid.validB a = true
    · refine Ev.pos c1 (Ev.bind1 (implValid_ev b) ?_)
      by_cases c2 : impl_PermValid.validB b = true
      · refine Ev.pos c2 (Ev.neg (fun e => c ?_) (Ev.now _))
        unfold both
        have : a.length = b.length := by omega
        simp [c1, c2, this]
      · exact Ev.neg c2 (Ev.now _)
    · exact Ev.neg c1 (Ev.now _)

/-- the way back, or no answer -/
noncomputable def backR (a : List Int) : List Int × Bool := if impl_PermValid.validB a = true then (pm a.length (finv a.length fun i => (rd a (i : Int)).toNat), true) else ([], false)

theorem finv_congr {n : Nat} {f g : Nat → Nat} (h : ∀ i, i < n → f i = g i) : finv n f = finv n g := by
  funext y
  unfold finv
  congr 1
  have : ∀ l : List Nat, (∀ i, i ∈ l → i < n) → l.find? (fun i => f i == y) = l.find? (fun i => g i == y) := by
    intro l
    induction l with
    | nil => intro _; rfl
    | cons a l ih => intro hl; simp only [List.find?_cons]; rw [h a (hl a (by simp)), ih (fun i hi => hl i (by simp [hi]))]
  exact this _ (fun i hi => by simpa using hi)

theorem backR_perm {n : Nat} {a : List Int} {f : Nat → Nat} (h : IsPerm n a f) : backR a = (pm n (finv n f), true) := by
  have e1 : a.length = n := by rw [h.2.2.2, pm_length]
  have v : impl_PermValid.validB a = true := (valid_iff a).2 ⟨f, by rw [e1]; exact h⟩
  unfold backR
  rw [if_pos v, e1]
  congr 2
  apply finv_congr
  intro i hi
  rw [h.2.2.2, rd_pm hi]; simp

theorem implBack_ev (a : List Int) : Ev (fun k => impl_PermBack.f k a) (backR a) := by
  unfold impl_PermBack.f
  refine Ev.bind1 (implValid_ev a) ?_
  by_cases c : impl_PermValid.validB a = true
  · obtain ⟨f, hf⟩ := (valid_iff a).1 c
    rw [backR_perm hf]
    refine Ev.pos c ?_
    have e := hf.2.2.2
    have : Ev (fun k => impl_back.f k a) (pm a.length (finv a.length f)) := by
      have := back_ev (n := a.length) (f := f) (by have := hf.2.1; omega) hf.2.2.1
      rwa [← e] at this
    exact Ev.bind1 this (Ev.now _)
  · unfold backR
    rw [if_neg c]
    exact Ev.neg c (Ev.now _)

def ints (l : List Nat) : List Int := l.map fun (x : Nat) => (x : Int)

def cycsTo (n : Nat) (f : Nat → Nat) (i : Nat) : List (List Int) := ((List.range i).filter (isMin n f)).map fun m => ints (cyc n f m)

/-- all cycles, as lists of numbers -/
def cycsL (n : Nat) (f : Nat → Nat) : List (List Int) := cycsTo n f n

theorem cycsL_length (n : Nat) (f : Nat → Nat) : (cycsL n f).length = cc n f := by simp [cycsL, cycsTo, cc]

theorem cycsTo_len (n : Nat) (f : Nat → Nat) (i : Nat) : (cycsTo n f i).length ≤ i := by
  unfold cycsTo
  rw [List.length_map]
  have := List.length_filter_le (isMin n f) (List.range i)
  simpa using this

def seenTo (n : Nat) (f : Nat → Nat) (i : Nat) (s : List Bool) : Prop := s.length = n ∧ ∀ x, x < n → (rdOf false s (x : Int) = true ↔ ∃ j, j < i ∧ orb f j x)

def seenIn (n : Nat) (f : Nat → Nat) (i k : Nat) (s : List Bool) : Prop := s.length = n ∧ ∀ x, x < n → (rdOf false s (x : Int) = true ↔ (∃ j, j < i ∧ orb f j x) ∨ ∃ m, m < k ∧ it f m i = x)

theorem rdOf_set {s : List Bool} {a b : Nat} {v : Bool} (h : a < s.length) : rdOf false (s.set a v) (b : Int) = if a = b then v else rdOf false s (b : Int) := by
  unfold rdOf
  simp only [Int.toNat_natCast, List.getD_eq_getElem?_getD, List.getElem?_set]
  by_cases e : a = b
  · subst e; simp [h]
  · simp [e]

theorem seen_start (n : Nat) (f : Nat → Nat) : seenTo n f 0 (List.replicate n false) := by
  refine ⟨by simp, fun x hx => ?_⟩
  unfold rdOf
  constructor
  · intro h; simp [List.getD_eq_getElem?_getD, hx] at h
  · rintro ⟨j, hj, _⟩; omega

theorem seen_in {n : Nat} {f : Nat → Nat} {i : Nat} {s : List Bool} (h : seenTo n f i s) : seenIn n f i 0 s :=
  ⟨h.1, fun x hx => by rw [h.2 x hx]; exact ⟨.inl, fun e => e.elim id (fun ⟨m, hm, _⟩ => absurd hm (by omega))⟩⟩

theorem seen_step {n : Nat} {f : Nat → Nat} (hf : Bij n f) {i k : Nat} (hi : i < n) {s : List Bool} (h : seenIn n f i k s) : seenIn n f i (k + 1) (s.set (it f k i) true) := by
  have hk := it_lt hf k hi
  refine ⟨by simp [h.1], fun x hx => ?_⟩
  rw [rdOf_set (by rw [h.1]; exact hk)]
  by_cases e : it f k i = x
  · rw [if_pos e]
    exact ⟨fun _ => .inr ⟨k, by omega, e⟩, fun _ => rfl⟩
  · rw [if_neg e, h.2 x hx]
    constructor
    · rintro (a | ⟨m, hm, b⟩)
      · exact .inl a
      · exact .inr ⟨m, by omega, b⟩
    · rintro (a | ⟨m, hm, b⟩)
      · exact .inl a
      · refine .inr ⟨m, ?_, b⟩
        apply Nat.lt_of_le_of_ne (by omega)
        intro d; subst d; exact e b

theorem seen_end {n : Nat} {f : Nat → Nat} (hf : Bij n f) {i : Nat} (hi : i < n) {s : List Bool} (h : seenIn n f i (per n f i) s) : seenTo n f (i + 1) s := by
  refine ⟨h.1, fun x hx => ?_⟩
  rw [h.2 x hx]
  constructor
  · rintro (⟨j, hj, o⟩ | ⟨m, hm, e⟩)
    · exact ⟨j, by omega, o⟩
    · exact ⟨i, by omega, m, e⟩
  · rintro ⟨j, hj, o⟩
    by_cases e : j = i
    · subst e
      obtain ⟨m, em⟩ := o
      exact .inr ⟨m % per n f j, Nat.mod_lt _ (per_spec hf hi).1, by rw [← it_mod_per hf hi]; exact em⟩
    · exact .inl ⟨j, by omega, o⟩

theorem seen_skip {n : Nat} {f : Nat → Nat} (hf : Bij n f) {i : Nat} (hi : i < n) {s : List Bool} (h : seenTo n f i s) (hs : rdOf false s (i : Int) = true) : seenTo n f (i + 1) s := by
  refine ⟨h.1, fun x hx => ?_⟩
  rw [h.2 x hx]
  obtain ⟨j, hj, o⟩ := (h.2 i hi).1 hs
  constructor
  · rintro ⟨j, hj, o⟩; exact ⟨j, by omega, o⟩
  · rintro ⟨j', hj', o'⟩
    by_cases e : j' = i
    · subst e; exact ⟨j, hj, orb_trans o o'⟩
    · exact ⟨j', by omega, o'⟩

theorem seen_min {n : Nat} {f : Nat → Nat} (hf : Bij n f) {i : Nat} (hi : i < n) {s : List Bool} (h : seenTo n f i s) : rdOf false s (i : Int) = !isMin n f i := by
  rw [Bool.eq_iff_iff, h.2 i hi, Bool.not_eq_true']
  constructor
  · rintro ⟨j, hj, o⟩
    apply Bool.eq_false_iff.2
    intro m
    exact (isMin_iff' hf hi).1 m j hj o
  · intro m
    apply Classical.byContradiction
    intro c
    have : isMin n f i = true := (isMin_iff' hf hi).2 fun j hj o => c ⟨j, hj, o⟩
    rw [m] at this; cases this

theorem seen_new {n : Nat} {f : Nat → Nat} (hf : Bij n f) {i k : Nat} (hi : i < n) {s : List Bool} (h : seenIn n f i k s) (hm : isMin n f i = true) (hk : k < per n f i) : rdOf false s (it f k i : Int) = false := by
  apply Bool.eq_false_iff.2
  intro c
  rcases (h.2 _ (it_lt hf k hi)).1 c with ⟨j, hj, o⟩ | ⟨m, hmk, e⟩
  · exact (isMin_iff' hf hi).1 hm j hj (orb_trans o (orb_symm hf hi ⟨k, rfl⟩))
  · have := it_inj_per hf hi (by omega) hk e
    omega

theorem seen_old {n : Nat} {f : Nat → Nat} (hf : Bij n f) {i : Nat} (hi : i < n) {s : List Bool} (h : seenIn n f i (per n f i) s) : rdOf false s (it f (per n f i) i : Int) = true := by
  have p := per_spec hf hi
  rw [p.2.2.1]
  exact (h.2 i hi).2 (.inr ⟨0, p.1, rfl⟩)

theorem cycsTo_succ (n : Nat) (f : Nat → Nat) (i : Nat) : cycsTo n f (i + 1) = if isMin n f i = true then cycsTo n f i ++ [ints (cyc n f i)] else cycsTo n f i := by
  unfold cycsTo
  rw [List.range_succ, List.filter_append, List.map_append]
  by_cases c : isMin n f i = true
  · simp [c]
  · simp [c]

def cycTo (f : Nat → Nat) (i k : Nat) : List Int := ints ((List.range k).map fun m => it f m i)

theorem cycTo_succ (f : Nat → Nat) (i k : Nat) : cycTo f i (k + 1) = cycTo f i k ++ [(it f k i : Int)] := by simp [cycTo, ints, List.range_succ]

theorem cycTo_len (f : Nat → Nat) (i k : Nat) : (cycTo f i k).length = k := by simp [cycTo, ints]

theorem implCycles_ev {n : Nat} {f : Nat → Nat} (hn : n ≤ 1000) (hf : Bij n f) : Ev (fun k => impl_cyclesOf.f k (pm n f)) (cycsL n f) := by
  have outer : ∀ d i (s : List Bool), i + d = n → seenTo n f i s → Ev (fun k => impl_cyclesOf.l0 k (pm n f) (cycsTo n f i) s (n : Int) (i : Int)) (cycsL n f) := by
    intro d
    induction d with
    | zero =>
      intro i s hi hs
      have e : i = n := by omega
      subst e
      exact Ev.step (f := fun _ => some (cycsTo i f i)) (fun k => by rw [impl_cyclesOf.l0, if_neg (by omega)]) (Ev.now _)
    | succ d ih =>
      intro i s hi hs
      have hin : i < n := by omega
      have cl := cycsTo_len n f i
      refine Ev.step (f := fun k => impl_cyclesOf.l1 k (pm n f) (cycsTo n f i) s [] (i : Int) (n : Int) (i : Int)) (fun k => by rw [impl_cyclesOf.l0, if_pos (by omega)]) ?_
      by_cases hm : isMin n f i = true
      · have inner : ∀ e k (s : List Bool), k + e = per n f i → seenIn n f i k s → Ev (fun q => impl_cyclesOf.l1 q (pm n f) (cycsTo n f i) s (cycTo f i k) (it f k i : Int) (n : Int) (i : Int)) (cycsL n f) := by
          intro e
          induction e with
          | zero =>
            intro k s hk hs
            have ek : k = per n f i := by omega
            subst ek
            have p := per_spec hf hin
            have ho := seen_old hf hin hs
            refine Ev.step (f := fun q => impl_cyclesOf.l0 q (pm n f) (cycsTo n f (i + 1)) s (n : Int) ((i + 1 : Nat) : Int)) (fun q => by
              rw [impl_cyclesOf.l1, if_pos (by omega), if_pos (by rw [hs.1]; have := it_lt hf (per n f i) hin; omega), if_pos ho, if_pos (by rw [cycTo_len]; omega), if_pos (by omega), wrap_nat (by omega), cycsTo_succ, if_pos hm]; rfl) ?_
            exact ih (i + 1) s (by omega) (seen_end hf hin hs)
          | succ e ihe =>
            intro k s hk hs
            have hkn := it_lt hf k hin
            have p := per_spec hf hin
            have hnew := seen_new hf hin hs hm (by omega)
            refine Ev.step (f := fun q => impl_cyclesOf.l1 q (pm n f) (cycsTo n f i) (s.set (it f k i) true) (cycTo f i (k + 1)) (it f (k + 1) i : Int) (n : Int) (i : Int)) (fun q => by
              rw [impl_cyclesOf.l1, if_pos (by omega), if_pos (by rw [hs.1]; omega), if_neg (by rw [hnew]; simp), if_pos (by rw [cycTo_len]; omega), if_pos (by rw [pm_length]; omega), rd_pm hkn, cycTo_succ]; rfl) ?_
            exact ihe (k + 1) _ (by omega) (seen_step hf hin hs)
        exact inner (per n f i) 0 s (by omega) (seen_in hs)
      · have ht : rdOf false s (i : Int) = true := by rw [seen_min hf hin hs]; simp [hm]
        refine Ev.step (f := fun q => impl_cyclesOf.l0 q (pm n f) (cycsTo n f (i + 1)) s (n : Int) ((i + 1 : Nat) : Int)) (fun q => by
          rw [impl_cyclesOf.l1, if_pos (by omega), if_pos (by rw [hs.1]; omega), if_pos ht, if_neg (by simp), wrap_nat (by omega), cycsTo_succ, if_neg hm]) ?_
        exact ih (i + 1) s (by omega) (seen_skip hf hin hs ht)
  unfold impl_cyclesOf.f
  simp only [pm_length]
  refine Ev.pos (by omega) (Ev.pos (by omega) ?_)
  have := outer n 0 _ (by omega) (seen_start n f)
  simpa [cycsTo] using this

noncomputable def signR (a : List Int) : Int := if impl_PermValid.validB a = true then sgn a.length (fun i => (rd a (i : Int)).toNat) else 0

theorem isPerm_rd {n : Nat} {a : List Int} {f : Nat → Nat} (h : IsPerm n a f) : ∀ i, i < n → (rd a (i : Int)).toNat = f i := by
  intro i hi; rw [h.2.2.2, rd_pm hi]; simp

theorem isPerm_len {n : Nat} {a : List Int} {f : Nat → Nat} (h : IsPerm n a f) : a.length = n := by rw [h.2.2.2, pm_length]

theorem isPerm_valid {n : Nat} {a : List Int} {f : Nat → Nat} (h : IsPerm n a f) : impl_PermValid.validB a = true :=
  (valid_iff a).2 ⟨f, by rw [isPerm_len h]; exact h⟩

theorem sgn_congr {n : Nat} {f g : Nat → Nat} (hf : Bij n f) (h : ∀ i, i < n → f i = g i) : sgn n f = sgn n g := by
  unfold sgn; rw [cc_congr hf h]

theorem signR_perm {n : Nat} {a : List Int} {f : Nat → Nat} (h : IsPerm n a f) : signR a = sgn n f := by
  unfold signR
  rw [if_pos (isPerm_valid h), isPerm_len h]
  exact (sgn_congr h.2.2.1 (fun i hi => (isPerm_rd h i hi).symm)).symm

theorem sign_step {n c : Nat} (hn : n ≤ 1000) (hc : c ≤ n) : (Int.tmod (wrap64 ((n : Int) - (c : Int))) 2 = 0) ↔ (n - c) % 2 = 0 := by
  rw [wrap_in (by omega) (by omega), show ((n : Int) - (c : Int)) = ((n - c : Nat) : Int) by omega]
  rw [Int.tmod_eq_emod_of_nonneg (by omega)]
  omega

theorem implSign_ev (a : List Int) : Ev (fun k => impl_PermSign.f k a) (signR a) := by
  unfold impl_PermSign.f
  refine Ev.bind1 (implValid_ev a) ?_
  by_cases c : impl_PermValid.validB a = true
  · obtain ⟨f, hf⟩ := (valid_iff a).1 c
    have h12 := hf.2.1
    rw [signR_perm hf]
    refine Ev.pos c ?_
    have cy := implCycles_ev (n := a.length) (f := f) (by omega) hf.2.2.1
    rw [← hf.2.2.2] at cy
    refine Ev.bind1 cy ?_
    rw [cycsL_length]
    have le := cc_le a.length f
    unfold sgn
    by_cases d : (a.length - cc a.length f) % 2 = 0
    · rw [if_pos d]; exact Ev.pos ((sign_step (by omega) le).2 d) (Ev.now _)
    · rw [if_neg d]; exact Ev.neg (fun e => d ((sign_step (by omega) le).1 e)) (Ev.now _)
  · unfold signR
    rw [if_neg c]
    exact Ev.neg c (Ev.now _)

theorem xor_i64_nat (a b : Nat) (ha : a < 9223372036854775808) (hb : b < 9223372036854775808) : Go.bits .xor .i64 (a : Int) (b : Int) = ((a ^^^ b : Nat) : Int) := by
  have hx : a ^^^ b < 2 ^ 63 := Nat.xor_lt_two_pow (by omega) (by omega)
  have h1 : (BitVec.ofInt 64 (a : Int)).toNat = a := by
    rw [BitVec.ofInt_natCast, BitVec.toNat_ofNat]; exact Nat.mod_eq_of_lt (by omega)
  have h2 : (BitVec.ofInt 64 (b : Int)).toNat = b := by
    rw [BitVec.ofInt_natCast, BitVec.toNat_ofNat]; exact Nat.mod_eq_of_lt (by omega)
  show IntKind.i64.wrap ((BitVec.ofInt 64 (a : Int) ^^^ BitVec.ofInt 64 (b : Int)).toNat : Int) = _
  rw [BitVec.toNat_xor, h1, h2]
  simp [IntKind.wrap, IntKind.bits, IntKind.signed]
  omega

theorem xor_i64_pos {a b : Int} (h1 : 0 ≤ a) (h2 : a < 9223372036854775808) (h3 : 0 ≤ b) (h4 : b < 9223372036854775808) : 0 ≤ Go.bits .xor .i64 a b := by
  obtain ⟨m, rfl⟩ : ∃ m : Nat, a = m := ⟨a.toNat, by omega⟩
  obtain ⟨k, rfl⟩ : ∃ k : Nat, b = k := ⟨b.toNat, by omega⟩
  rw [xor_i64_nat _ _ (by omega) (by omega)]
  omega

/-- a code's bytes -/
def Bytes (s : List Int) : Prop := s.length ≤ 2000 ∧ ∀ x, x ∈ s → 0 ≤ x ∧ x ≤ 255

theorem Bytes.rd {s : List Int} (h : Bytes s) (i : Int) : 0 ≤ rd s i ∧ rd s i ≤ 255 := by
  unfold Go.Proofs.YtknkefjleinkkaaW.PrintWords.rd
  rw [List.getD_eq_getElem?_getD]
  cases e : s[i.toNat]? with
  | none => simp
  | some x => exact h.2 x (List.mem_of_getElem? e)

theorem tmod_in {a n : Int} (ha : 0 ≤ a) (hn : 1 ≤ n) : 0 ≤ Int.tmod a n ∧ Int.tmod a n < n := by
  rw [Int.tmod_eq_emod_of_nonneg ha]
  exact ⟨Int.emod_nonneg _ (by omega), Int.emod_lt_of_pos _ (by omega)⟩

theorem pick_ev {s : List Int} (hs : Bytes s) {p n : Int} (h0 : 0 ≤ p) (h1 : p ≤ 1000000000) (hn : n ≤ 1000000000) :
    ∃ v, Ev (fun k => spec_l6Rd_pick.f k s p n) (v, p + 1) ∧ 0 ≤ v ∧ v ≤ 1000000000 ∧ (1 ≤ n → v < n) := by
  have w1 : wrap64 (p + 1) = p + 1 := wrap_in (by omega) (by omega)
  have w2 : wrap64 (p + 1 - 1) = p := by rw [wrap_in (by omega) (by omega)]; omega
  unfold spec_l6Rd_pick.f
  by_cases c : n < 1
  · refine ⟨0, Ev.pos c ?_, by omega, by omega, fun e => by omega⟩
    rw [w1]
    exact Ev.step (f := fun _ => some (0, p + 1)) (fun k => by rw [spec_l6Rd_pick.j0, if_pos rfl]) (Ev.now _)
  · by_cases d : s.length = 0
    · refine ⟨0, Ev.neg c ?_, by omega, by omega, fun e => by omega⟩
      rw [w1]
      have e : ((s.length : Int) == 0) = true := by simp [d]
      rw [e]
      exact Ev.step (f := fun _ => some (0, p + 1)) (fun k => by rw [spec_l6Rd_pick.j0, if_pos rfl]) (Ev.now _)
    · have e : ((s.length : Int) == 0) = false := by
        exact beq_eq_false_iff_ne.mpr (by omega)
      have hl := hs.1
      by_cases f : p < s.length
      · have r := hs.rd p
        have t := tmod_in (a := rd s p) (n := n) r.1 (by omega)
        refine ⟨Int.tmod (rd s p) n, Ev.neg c ?_, t.1, by omega, fun _ => t.2⟩
        rw [w1, e]
        refine Ev.step (f := fun _ => some (Int.tmod (rd s p) n, p + 1)) (fun k => by
          rw [spec_l6Rd_pick.j0, w2, if_neg (by simp), if_pos f, if_pos h0, if_neg (by omega), wrap_in (by omega) (by omega)]) (Ev.now _)
      · have m1 := tmod_in (a := p) (n := (s.length : Int)) h0 (by omega)
        have w3 : wrap64 (p * 7) = p * 7 := wrap_in (by omega) (by omega)
        have w4 : wrap64 (p * 7 + 3) = p * 7 + 3 := wrap_in (by omega) (by omega)
        have m2 := tmod_in (a := p * 7 + 3) (n := (s.length : Int)) (by omega) (by omega)
        obtain ⟨A, hA⟩ : ∃ A, A = rd s (Int.tmod p (s.length : Int)) := ⟨_, rfl⟩
        obtain ⟨B, hB⟩ : ∃ B, B = rd s (Int.tmod (p * 7 + 3) (s.length : Int)) := ⟨_, rfl⟩
        have a1 : 0 ≤ A ∧ A ≤ 255 := by rw [hA]; exact hs.rd _
        have b1 : 0 ≤ B ∧ B ≤ 255 := by rw [hB]; exact hs.rd _
        obtain ⟨D, hD⟩ : ∃ D, D = Int.tdiv p (s.length : Int) := ⟨_, rfl⟩
        have d1 : 0 ≤ D ∧ D ≤ p := by
          rw [hD, Int.tdiv_eq_ediv_of_nonneg h0]
          exact ⟨Int.ediv_nonneg h0 (by omega), Int.ediv_le_self _ h0⟩
        obtain ⟨X, hX⟩ : ∃ X, X = A * 131 + B * 1117 + p * 29 + D * 53 := ⟨_, rfl⟩
        have x1 : 0 ≤ X ∧ X ≤ 100000000000 := by omega
        have y1 : 0 ≤ Int.tdiv X 64 ∧ Int.tdiv X 64 ≤ X := by
          rw [Int.tdiv_eq_ediv_of_nonneg x1.1]; omega
        have z := xor_i64_pos (a := X) (b := Int.tdiv X 64) x1.1 (by omega) y1.1 (by omega)
        have t := tmod_in (n := n) z (by omega)
        refine ⟨Int.tmod (Go.bits .xor .i64 X (Int.tdiv X 64)) n, Ev.neg c ?_, t.1, by omega, fun _ => t.2⟩
        rw [w1, e]
        refine Ev.step (f := fun _ => some (Int.tmod (Go.bits .xor .i64 X (Int.tdiv X 64)) n, p + 1)) (fun k => by
          rw [spec_l6Rd_pick.j0, w2, if_neg (by simp), if_neg f, if_neg (by omega), if_pos m1.1, if_pos m1.2, w3, w4, if_pos m2.1, if_pos m2.2, if_neg (by omega), ← hA, ← hB, ← hD]
          rw [wrap_in (n := A) (by omega) (by omega), wrap_in (n := B) (by omega) (by omega), wrap_in (n := A * 131) (by omega) (by omega), wrap_in (n := B * 1117) (by omega) (by omega), wrap_in (n := A * 131 + B * 1117) (by omega) (by omega), wrap_in (n := p * 29) (by omega) (by omega), wrap_in (n := A * 131 + B * 1117 + p * 29) (by omega) (by omega), wrap_in (n := D) (by omega) (by omega), wrap_in (n := D * 53) (by omega) (by omega), wrap_in (n := A * 131 + B * 1117 + p * 29 + D * 53) (by omega) (by omega), ← hX, wrap_in (n := Int.tdiv X 64) (by omega) (by omega)]) (Ev.now _)

theorem open_ev {l : List Int} (hw : ∀ x ∈ l, (Lit.int .u8 x).wf = true) : ∃ s, Bytes s ∧ Ev (fun _ => spec_l6Open.f l) (s, 0) := by
  have hb : ∀ x, x ∈ l → 0 ≤ x ∧ x ≤ 255 := by
    intro x hx
    have := hw x hx
    simp [Lit.wf, IntKind.min, IntKind.max, IntKind.signed, IntKind.bits] at this
    omega
  unfold spec_l6Open.f
  by_cases c : (l.length : Int) > 2000
  · refine ⟨l.take 2000, ⟨by simp; omega, fun x hx => hb x (List.mem_of_mem_take hx)⟩, Ev.pos c (Ev.pos (by omega) (Ev.now _))⟩
  · exact ⟨l, ⟨by omega, hb⟩, Ev.neg c (Ev.now _)⟩

/-- f with the point n put into the cycle ahead of k -/
def ins (n k : Nat) (f : Nat → Nat) (x : Nat) : Nat := if x = n then f k else if x = k then n else f x

theorem ins_bij {n k : Nat} {f : Nat → Nat} (hf : Bij n f) (hk : k < n) : Bij (n + 1) (ins n k f) := by
  constructor
  · intro i hi
    unfold ins
    split
    · have := hf.1 k hk; omega
    · split
      · omega
      · have := hf.1 i (by omega); omega
  · intro i j hi hj e
    unfold ins at e
    have bi : i ≠ n → f i < n := fun h => hf.1 i (by omega)
    have bj : j ≠ n → f j < n := fun h => hf.1 j (by omega)
    have bk := hf.1 k hk
    by_cases a1 : i = n <;> by_cases a2 : j = n
    · omega
    · rw [if_pos a1, if_neg a2] at e
      by_cases a3 : j = k
      · rw [if_pos a3] at e; omega
      · rw [if_neg a3] at e; exact absurd (hf.2 k j hk (by omega) e) (fun h => a3 h.symm)
    · rw [if_neg a1, if_pos a2] at e
      by_cases a3 : i = k
      · rw [if_pos a3] at e; omega
      · rw [if_neg a3] at e; exact absurd (hf.2 i k (by omega) hk e) a3
    · rw [if_neg a1, if_neg a2] at e
      by_cases a3 : i = k <;> by_cases a4 : j = k
      · omega
      · rw [if_pos a3, if_neg a4] at e; have := bj a2; omega
      · rw [if_neg a3, if_pos a4] at e; have := bi a1; omega
      · rw [if_neg a3, if_neg a4] at e; exact hf.2 i j (by omega) (by omega) e

theorem add_bij {n : Nat} {f : Nat → Nat} (hf : Bij n f) : Bij (n + 1) (fun x => if x = n then n else f x) := by
  constructor
  · intro i hi
    show (if i = n then n else f i) < n + 1
    split
    · omega
    · have := hf.1 i (by omega); omega
  · intro i j hi hj e
    have e' : (if i = n then n else f i) = (if j = n then n else f j) := e
    by_cases a1 : i = n <;> by_cases a2 : j = n
    · omega
    · rw [if_pos a1, if_neg a2] at e'; have := hf.1 j (by omega); omega
    · rw [if_neg a1, if_pos a2] at e'; have := hf.1 i (by omega); omega
    · rw [if_neg a1, if_neg a2] at e'; exact hf.2 i j (by omega) (by omega) e'

theorem perm_ev {s : List Int} (hs : Bytes s) {p : Int} (h0 : 0 ≤ p) (h1 : p ≤ 1000000) {n : Nat} (hn : n ≤ 1000) : ∃ f, Bij n f ∧ Ev (fun k => spec_l91Perm.f k s p (n : Int)) (pm n f, p + n) := by
  have loop : ∀ d i (f : Nat → Nat), i + d = n → Bij i f → ∃ g, Bij n g ∧ Ev (fun k => spec_l91Perm.l0 k (n : Int) (pm i f) (i : Int) s (p + i)) (pm n g, p + n) := by
    intro d
    induction d with
    | zero =>
      intro i f hi hf
      have e : i = n := by omega
      subst e
      exact ⟨f, hf, Ev.step (f := fun _ => some (pm i f, p + i)) (fun k => by rw [spec_l91Perm.l0, if_neg (by omega)]) (Ev.now _)⟩
    | succ d ih =>
      intro i f hi hf
      obtain ⟨v, ev, v0, _, v1⟩ := pick_ev hs (p := p + i) (n := (i : Int) + 1) (by omega) (by omega) (by omega)
      have v2 := v1 (by omega)
      obtain ⟨k, rfl⟩ : ∃ k : Nat, v = k := ⟨v.toNat, by omega⟩
      have ep : p + (i : Int) + 1 = p + ((i + 1 : Nat) : Int) := by omega
      by_cases c : k = i
      · subst c
        obtain ⟨g, hg, eg⟩ := ih (k + 1) _ (by omega) (add_bij hf)
        refine ⟨g, hg, ?_⟩
        refine Ev.step (fun q => by rw [spec_l91Perm.l0]) (Ev.pos (by omega) ?_)
        rw [wrap_nat (by omega)]
        refine Ev.bind1 ev (Ev.pos rfl (Ev.pos (by rw [pm_length]; omega) ?_))
        have es : pm k f ++ [(k : Int)] = pm (k + 1) (fun x => if x = k then k else f x) := by
          unfold pm
          rw [List.range_succ, List.map_append]
          congr 1
          · apply List.map_congr_left
            intro x hx
            have : x < k := by simpa using hx
            show (f x : Int) = ((if x = k then k else f x : Nat) : Int)
            rw [if_neg (by omega)]
          · simp
        rw [es]
        show Ev (fun q => spec_l91Perm.l0 q _ _ _ s (p + (k : Int) + 1)) _
        rw [ep]
        exact eg
      · have hk : k < i := by omega
        obtain ⟨g, hg, eg⟩ := ih (i + 1) _ (by omega) (ins_bij hf hk)
        refine ⟨g, hg, ?_⟩
        refine Ev.step (fun q => by rw [spec_l91Perm.l0]) (Ev.pos (by omega) ?_)
        rw [wrap_nat (by omega)]
        refine Ev.bind1 ev (Ev.neg (by show ¬ (k : Int) = i; omega) (Ev.pos (by show 0 ≤ (k : Int); omega) (Ev.pos (by rw [pm_length]; show (k : Int) < i; omega) (Ev.pos (by rw [pm_length]; omega) ?_))))
        refine Ev.some1 (Ev.pos (by simp [pm_length]; omega) ?_)
        have es : (pm i f ++ [rd (pm i f) (k : Int)]).set ((k : Int)).toNat (i : Int) = pm (i + 1) (ins i k f) := by
          refine eq_pm' (by simp [pm_length]) fun x hx => ?_
          rw [Int.toNat_natCast, rd_set (by simp [pm_length]; omega), rd_pm hk]
          unfold ins
          by_cases a1 : k = x
          · rw [if_pos a1, if_neg (by omega), if_pos a1.symm]
          · rw [if_neg a1]
            by_cases a2 : x = i
            · rw [if_pos a2, a2]
              have : i < (pm i f ++ [(f k : Int)]).length := by simp [pm_length]
              rw [rd_get this]
              simp [pm_length]
            · rw [if_neg a2, if_neg (fun e => a1 e.symm)]
              have hx' : x < i := by omega
              have : x < (pm i f ++ [(f k : Int)]).length := by simp [pm_length]; omega
              rw [rd_get this, List.getElem_append_left (by rw [pm_length]; exact hx'), ← rd_get (by rw [pm_length]; exact hx'), rd_pm hx']
        show Ev (fun q => spec_l91Perm.l0 q _ ((pm i f ++ [rd (pm i f) (k : Int)]).set ((k : Int)).toNat (i : Int)) _ s (p + (i : Int) + 1)) _
        rw [es, ep]
        exact eg
  obtain ⟨g, hg, eg⟩ := loop n 0 (fun x => x) (by omega) (id_bij 0)
  refine ⟨g, hg, ?_⟩
  unfold spec_l91Perm.f
  have : p + ((0 : Nat) : Int) = p := by omega
  rw [this] at eg
  exact eg

/-- some list of numbers, seldom no permutation -/
theorem some_ev {s : List Int} (hs : Bytes s) {p : Int} (h0 : 0 ≤ p) (h1 : p ≤ 100000) {n : Int} (hn : 1 ≤ n) (hn2 : n ≤ 20) : ∃ l p', Ev (fun k => spec_l91Some.f k s p n) (l, p') ∧ l.length ≤ 30 ∧ p ≤ p' ∧ p' ≤ p + 100 := by
  obtain ⟨v, ev, v0, _, v1⟩ := pick_ev hs (p := p) (n := n) h0 (by omega) (by omega)
  have v2 := v1 hn
  obtain ⟨m, rfl⟩ : ∃ m : Nat, v = m := ⟨v.toNat, by omega⟩
  obtain ⟨f, hf, ef⟩ := perm_ev hs (p := p + 1) (n := 1 + m) (by omega) (by omega) (by omega)
  obtain ⟨v', ev', v0', _, v1'⟩ := pick_ev hs (p := p + 1 + ((1 + m : Nat) : Int)) (n := 40) (by omega) (by omega) (by omega)
  have ew : wrap64 (1 + (m : Int)) = ((1 + m : Nat) : Int) := by rw [wrap_in (by omega) (by omega)]; omega
  unfold spec_l91Some.f
  have hl : (pm (1 + m) f).length = 1 + m := pm_length _ _
  by_cases c0 : v' = 0
  · obtain ⟨v'', ev'', v0'', _, v1''⟩ := pick_ev hs (p := p + 1 + ((1 + m : Nat) : Int) + 1) (n := 2) (by omega) (by omega) (by omega)
    have := v1'' (by omega)
    refine ⟨(pm (1 + m) f).set 0 (rd [(-1), ((pm (1 + m) f).length : Int)] v''), p + 1 + ((1 + m : Nat) : Int) + 1 + 1, ?_, by simp [pm_length]; omega, by omega, by omega⟩
    refine Ev.bind1 ev ?_
    show Ev (fun n_1 => (spec_l91Perm.f n_1 s (p + 1) (wrap64 (1 + (m : Int)))).bind _) _
    rw [ew]
    exact Ev.bind1 ef (Ev.bind1 ev' (Ev.pos c0 (Ev.some1 (Ev.bind1 ev'' (Ev.pos v0'' (Ev.pos (by simp; omega) (Ev.pos (by simp [pm_length]; omega) (Ev.now _))))))))
  · by_cases c1 : v' = 1
    · refine ⟨[], p + 1 + ((1 + m : Nat) : Int) + 1, ?_, by simp, by omega, by omega⟩
      refine Ev.bind1 ev ?_
      show Ev (fun n_1 => (spec_l91Perm.f n_1 s (p + 1) (wrap64 (1 + (m : Int)))).bind _) _
      rw [ew]
      exact Ev.bind1 ef (Ev.bind1 ev' (Ev.neg c0 (Ev.pos c1 (Ev.now _))))
    · by_cases c2 : v' = 2
      · refine ⟨pm (1 + m) f ++ [rd (pm (1 + m) f) 0], p + 1 + ((1 + m : Nat) : Int) + 1, ?_, by simp [pm_length]; omega, by omega, by omega⟩
        refine Ev.bind1 ev ?_
        show Ev (fun n_1 => (spec_l91Perm.f n_1 s (p + 1) (wrap64 (1 + (m : Int)))).bind _) _
        rw [ew]
        exact Ev.bind1 ef (Ev.bind1 ev' (Ev.neg c0 (Ev.neg c1 (Ev.pos c2 (Ev.pos (by simp [pm_length]; omega) (Ev.pos (by simp [pm_length]; omega) (Ev.now _)))))))
      · refine ⟨pm (1 + m) f, p + 1 + ((1 + m : Nat) : Int) + 1, ?_, by simp [pm_length]; omega, by omega, by omega⟩
        refine Ev.bind1 ev ?_
        show Ev (fun n_1 => (spec_l91Perm.f n_1 s (p + 1) (wrap64 (1 + (m : Int)))).bind _) _
        rw [ew]
        exact Ev.bind1 ef (Ev.bind1 ev' (Ev.neg c0 (Ev.neg c1 (Ev.neg c2 (Ev.now _)))))

theorem two_ev {s : List Int} (hs : Bytes s) {p : Int} (h0 : 0 ≤ p) (h1 : p ≤ 10000) : ∃ l l' p', Ev (fun k => spec_l91Two.f k s p) (l, l', p') ∧ l.length ≤ 30 ∧ l'.length ≤ 30 ∧ p ≤ p' ∧ p' ≤ p + 300 := by
  obtain ⟨l, p1, e1, hl, q1, q2⟩ := some_ev hs h0 (by omega) (n := 8) (by omega) (by omega)
  obtain ⟨v, ev, v0, _, v1⟩ := pick_ev hs (p := p1) (n := 12) (by omega) (by omega) (by omega)
  obtain ⟨l2, p2, e2, hl2, q3, q4⟩ := some_ev hs (p := p1 + 1) (by omega) (by omega) (n := 8) (by omega) (by omega)
  obtain ⟨f, hf, ef⟩ := perm_ev hs (p := p1 + 1) (n := l.length) (by omega) (by omega) (by omega)
  have yes : Ev (fun k => spec_l91Two.j0 k l true s (p1 + 1)) (l, l2, p2) :=
    Ev.step (fun k => by rw [spec_l91Two.j0]) (Ev.pos rfl (Ev.bind1 e2 (Ev.now _)))
  have no : Ev (fun k => spec_l91Two.j0 k l false s (p1 + 1)) (l, pm l.length f, p1 + 1 + l.length) :=
    Ev.step (fun k => by rw [spec_l91Two.j0]) (Ev.neg (by simp) (Ev.bind1 ef (Ev.now _)))
  unfold spec_l91Two.f
  by_cases c : v = 0
  · exact ⟨l, l2, p2, Ev.bind1 e1 (Ev.bind1 ev (Ev.pos c yes)), hl, hl2, by omega, by omega⟩
  · by_cases d : l.length = 0
    · have e : ((l.length : Int) == 0) = true := by simp [d]
      refine ⟨l, l2, p2, Ev.bind1 e1 (Ev.bind1 ev (Ev.neg c ?_)), hl, hl2, by omega, by omega⟩
      show Ev (fun k => spec_l91Two.j0 k l ((l.length : Int) == 0) s (p1 + 1)) _
      rw [e]; exact yes
    · have e : ((l.length : Int) == 0) = false := by
        exact beq_eq_false_iff_ne.mpr (by omega)
      refine ⟨l, pm l.length f, p1 + 1 + l.length, Ev.bind1 e1 (Ev.bind1 ev (Ev.neg c ?_)), hl, by rw [pm_length]; exact hl, by omega, by omega⟩
      show Ev (fun k => spec_l91Two.j0 k l ((l.length : Int) == 0) s (p1 + 1)) _
      rw [e]; exact no

theorem mulR_perm {n : Nat} {a b : List Int} {f g : Nat → Nat} (h : IsPerm n a f) (k : IsPerm n b g) : mulR a b = (pm n (fun i => g (f i)), true) := by
  unfold mulR
  rw [if_pos ((both_iff a b).2 ⟨n, f, g, h, k⟩), h.2.2.2, k.2.2.2, pm_map h.2.2.1.1]

theorem mul_isPerm {n : Nat} {a b : List Int} {f g : Nat → Nat} (h : IsPerm n a f) (k : IsPerm n b g) : IsPerm n (pm n (fun i => g (f i))) (fun i => g (f i)) := ⟨h.1, h.2.1, comp_bij h.2.2.1 k.2.2.1, rfl⟩

theorem back_isPerm {n : Nat} {a : List Int} {f : Nat → Nat} (h : IsPerm n a f) : IsPerm n (pm n (finv n f)) (finv n f) := ⟨h.1, h.2.1, finv_bij h.2.2.1, rfl⟩

theorem implMul_pm {n : Nat} {a b : List Int} {f g : Nat → Nat} (h : IsPerm n a f) (k : IsPerm n b g) : Ev (fun q => impl_PermMul.f q a b) (pm n (fun i => g (f i)), true) := by
  have := implMul_ev a b; rwa [mulR_perm h k] at this

theorem implBack_pm {n : Nat} {a : List Int} {f : Nat → Nat} (h : IsPerm n a f) : Ev (fun q => impl_PermBack.f q a) (pm n (finv n f), true) := by
  have := implBack_ev a; rwa [backR_perm h] at this

theorem implSign_pm {n : Nat} {a : List Int} {f : Nat → Nat} (h : IsPerm n a f) : Ev (fun q => impl_PermSign.f q a) (sgn n f) := by
  have := implSign_ev a; rwa [signR_perm h] at this

theorem drawMul_ev {l : List Int} (hw : ∀ x ∈ l, (Lit.int .u8 x).wf = true) : ∃ p q, p.length ≤ 30 ∧ q.length ≤ 30 ∧ Ev (fun k => spec_DrawPermMul.f k l) (p, q) := by
  obtain ⟨s, hs, es⟩ := open_ev hw
  obtain ⟨p, q, r, e, hl, hl', _⟩ := two_ev hs (p := 0) (by omega) (by omega)
  exact ⟨p, q, hl, hl', Ev.bind1 es (Ev.bind1 e (Ev.now _))⟩

/-- round by so many -/
def mix (n b : Nat) (i : Nat) : Nat := (i + b) % n

theorem mix_bij {n b : Nat} (hn : 0 < n) : Bij n (mix n b) := by
  refine ⟨fun i _ => Nat.mod_lt _ hn, fun i j hi hj e => ?_⟩
  unfold mix at e
  have key : ∀ i j, i < n → j < n → i ≤ j → (i + b) % n = (j + b) % n → i = j := by
    intro i j hi hj hij e
    have h := Nat.sub_mod_eq_zero_of_mod_eq e.symm
    have : (j + b) - (i + b) = j - i := by omega
    rw [this] at h
    have := Nat.mod_eq_of_lt (show j - i < n by omega)
    omega
  rcases Nat.le_total i j with c | c
  · exact key i j hi hj c e
  · exact (key j i hj hi c e.symm).symm

theorem mixOf_ev {n : Nat} {b : Nat} (hn : n ≤ 1000) (hb : b ≤ 1000) : Ev (fun k => laws_mixOf.f k (n : Int) (b : Int)) (pm n (mix n b)) := by
  have loop : ∀ d i, i + d = n → Ev (fun k => laws_mixOf.l0 k (n : Int) (b : Int) (pm i (mix n b)) (i : Int)) (pm n (mix n b)) := by
    intro d
    induction d with
    | zero =>
      intro i hi
      have e : i = n := by omega
      rw [e]
      exact Ev.step (f := fun _ => some (pm n (mix n b))) (fun k => by rw [laws_mixOf.l0, if_neg (by omega)]) (Ev.now _)
    | succ d ih =>
      intro i hi
      refine Ev.step (f := fun k => laws_mixOf.l0 k (n : Int) (b : Int) (pm (i + 1) (mix n b)) ((i + 1 : Nat) : Int)) (fun k => by
        rw [laws_mixOf.l0, if_pos (by omega), if_neg (by omega), if_pos (by rw [pm_length]; omega), wrap_nat (by omega), wrap_in (by omega) (by omega), Int.tmod_eq_emod_of_nonneg (by omega)]
        have : ((i : Int) + (b : Int)) % (n : Int) = ((mix n b i : Nat) : Int) := by unfold mix; rw [Int.natCast_emod, Int.natCast_add]
        rw [this]
        simp [pm, List.range_succ]) (ih (i + 1) (by omega))
  unfold laws_mixOf.f
  exact loop n 0 (by omega)

theorem finv_comp {n : Nat} {f g : Nat → Nat} (hf : Bij n f) (hg : Bij n g) : pm n (finv n fun i => g (f i)) = pm n (fun i => finv n f (finv n g i)) := by
  rw [pm_ext]
  intro y hy
  have h := comp_bij hf hg
  obtain ⟨a1, a2⟩ := finv_spec hg hy
  obtain ⟨b1, b2⟩ := finv_spec hf a1
  obtain ⟨c1, c2⟩ := finv_spec h hy
  refine h.2 _ _ c1 b1 ?_
  show g (f (finv n (fun i => g (f i)) y)) = g (f (finv n f (finv n g y)))
  rw [b2, a2]; exact c2

theorem sgn_one (n : Nat) (f : Nat → Nat) : sgn n f = 1 ∨ sgn n f = -1 := by
  unfold sgn
  by_cases d : (n - cc n f) % 2 = 0
  · rw [if_pos d]; exact .inl rfl
  · rw [if_neg d]; exact .inr rfl

/-- Products are permutations: they are put together in any order, lead back in the other order, and signs multiply. -/
theorem FnMul : laws_FnMul.Pure := by
  intro l l' hl1 hl2 hw hl1' hl2' hw'
  refine Ev.rounds ?_
  have yes : Ev (fun k => laws_FnMul.j0 k l l' true) true := Ev.step (f := fun _ => some true) (fun k => by rw [laws_FnMul.j0, if_pos rfl]) (Ev.now _)
  unfold laws_FnMul.f
  by_cases c : (l.length : Int) > 1048576
  · exact Ev.pos c yes
  refine Ev.neg c ?_
  by_cases c' : (l'.length : Int) > 1048576
  · rw [decide_eq_true c']; exact yes
  rw [decide_eq_false c']
  refine Ev.step (fun k => by rw [laws_FnMul.j0]) (Ev.neg (by simp) ?_)
  obtain ⟨p, q, hp, hq, ep⟩ := drawMul_ev hw
  have hlen : (mulR p q).1.length ≤ 1048576 := by
    unfold mulR; split
    · simp; omega
    · simp
  refine Ev.bind1 ep (Ev.bind1 (implMul_ev p q) (Ev.bind1 (specMul_ev (by show p.length ≤ _; omega) (by show q.length ≤ _; omega)) (Ev.neg (by simp) (Ev.bind1 (sameInts_ev (by omega)) (Ev.pos (by simp) ?_)))))
  refine Ev.step (fun k => by rw [laws_FnMul.j1]) ?_
  by_cases v : both p q = true
  · obtain ⟨n, f, g, hf, hg⟩ := (both_iff p q).1 v
    have h12 := hf.2.1
    obtain ⟨b, hb⟩ : ∃ b : Nat, (b : Int) = 1 + ((l'.length : Int) % 7) := ⟨(1 + ((l'.length : Int) % 7)).toNat, by omega⟩
    have hmix : IsPerm n (pm n (mix n b)) (mix n b) := ⟨hf.1, hf.2.1, mix_bij (by have := hf.1; omega), rfl⟩
    rw [mulR_perm hf hg]
    have ho := mul_isPerm hf hg
    have em := mixOf_ev (n := n) (b := b) (by omega) (by omega)
    rw [hb, ← isPerm_len hf] at em
    have hm2 := hmix
    have lp := isPerm_len hf
    refine Ev.neg (by simp) (Ev.bind1 em ?_)
    rw [lp]
    refine Ev.bind1 (implMul_pm ho hmix) (Ev.bind1 (implMul_pm hg hmix) (Ev.bind1 (implMul_pm hf (mul_isPerm hg hmix)) (Ev.bind1 (implBack_pm ho) (Ev.bind1 (implBack_pm hf) (Ev.bind1 (implBack_pm hg) (Ev.bind1 (implMul_pm (back_isPerm hg) (back_isPerm hf)) ?_))))))
    refine Ev.pos rfl (Ev.pos rfl (Ev.pos rfl (Ev.pos rfl (Ev.pos rfl (Ev.pos rfl (Ev.pos rfl (Ev.bind1 (implValid_ev _) (Ev.pos (isPerm_valid ho) ?_))))))))
    refine Ev.bind1 (sameInts_ev (by show (pm n _).length ≤ _; rw [pm_length]; omega)) (Ev.pos (by simp) (Ev.bind1 (sameInts_ev (by show (pm n _).length ≤ _; rw [pm_length]; omega)) (Ev.pos (by
      show decide (pm n (finv n fun i => g (f i)) = pm n (fun i => finv n f (finv n g i))) = true
      rw [finv_comp hf.2.2.1 hg.2.2.1]; simp) (Ev.bind1 (implSign_pm ho) (Ev.bind1 (implSign_pm hf) (Ev.bind1 (implSign_pm hg) ?_))))))
    rw [sgn_comp hf.2.2.1 hg.2.2.1]
    have e : (sgn n f * sgn n g == wrap64 (sgn n f * sgn n g)) = true := by
      rcases sgn_one n f with e1 | e1 <;> rcases sgn_one n g with e2 | e2 <;> rw [e1, e2] <;> rw [wrap_in (by omega) (by omega)] <;> rfl
    rw [e]
    exact Ev.now _
  · have e : mulR p q = ([], false) := by unfold mulR; rw [if_neg v]
    rw [e]
    refine Ev.pos rfl (Ev.pos (by simp) (Ev.bind1 (sameInts_ev (by simp)) ?_))
    simp only [decide_true]
    exact Ev.now _
end Go.Proofs.Ytknkefjleinkkaa.R
namespace Go.Proofs.Ytknkefjleinkkaa.Pure
theorem FnMul : Go.Proofs.Ytknkefjleinkkaa.F.laws_FnMul.Pure := Go.Proofs.Ytknkefjleinkkaa.R.FnMul
end Go.Proofs.Ytknkefjleinkkaa.Pure
