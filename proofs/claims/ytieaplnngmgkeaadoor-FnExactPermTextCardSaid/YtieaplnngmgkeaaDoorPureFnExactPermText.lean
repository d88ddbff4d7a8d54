/- The reference and the program write the same text. -/
import Derived.Test.YtieaplnngmgkeaaDoorF0
import Derived.Test.YtieaplnngmgkeaaDoorF1
import Derived.Test.YtieaplnngmgkeaaDoorF10
import Derived.Test.YtieaplnngmgkeaaDoorF11
import Derived.Test.YtieaplnngmgkeaaDoorF2
import Derived.Test.YtieaplnngmgkeaaDoorF3
import Derived.Test.YtieaplnngmgkeaaDoorF5
import Derived.Test.YtieaplnngmgkeaaDoorF6
import Derived.Test.YtieaplnngmgkeaaDoorF7
import Derived.Test.YtieaplnngmgkeaaDoorF8
import Derived.Test.YtieaplnngmgkeaaDoorF9
set_option linter.unusedVariables false
set_option linter.unusedSimpArgs false
namespace Go.Proofs.YtieaplnngmgkeaaDoor.Sm
open List
/-- f permutes the numbers below n. -/
def Bij (n : Nat) (f : Nat → Nat) : Prop := (∀ i, i < n → f i < n) ∧ (∀ i j, i < n → j < n → f i = f j → i = j)

/-- the list of a permutation -/
def pm (n : Nat) (f : Nat → Nat) : List Int := (List.range n).map (fun i => (f i : Int))

theorem pm_length (n : Nat) (f : Nat → Nat) : (pm n f).length = n := by simp [pm]

theorem pm_getD (n : Nat) (f : Nat → Nat) (i : Nat) (h : i < n) : (pm n f).getD i 0 = (f i : Int) := by
 simp [pm, List.getD, h]

theorem eq_pm (n : Nat) (f : Nat → Nat) (l : List Int) (hl : l.length = n) (h : ∀ i, i < n → l.getD i 0 = (f i : Int)) : l = pm n f := by
 apply List.ext_getElem
 ·rw [hl, pm_length]
 ·intro i h1 h2
  have := h i (by omega)
  have e := pm_getD n f i (by omega)
  simp only [List.getD_eq_getElem?_getD, List.getElem?_eq_getElem h1, Option.getD_some] at this
  simp only [List.getD_eq_getElem?_getD, List.getElem?_eq_getElem h2, Option.getD_some] at e
  rw [this, e]

/-- f done m times -/
def it (f : Nat → Nat) : Nat → Nat → Nat
 | 0, x => x
 | m + 1, x => f (it f m x)

theorem it_add (f : Nat → Nat) (a b x : Nat) : it f (a + b) x = it f a (it f b x) := by
 induction a with
 | zero => simp [it]
 | succ a ih => rw [Nat.succ_add]; simp [it, ih]

theorem it_lt {n : Nat} {f : Nat → Nat} (h : Bij n f) (m : Nat) {x : Nat} (hx : x < n) : it f m x < n := by
 induction m with
 | zero => exact hx
 | succ m ih => exact h.1 _ ih

theorem it_inj {n : Nat} {f : Nat → Nat} (h : Bij n f) (m : Nat) {x y : Nat} (hx : x < n) (hy : y < n) (e : it f m x = it f m y) : x = y := by
 induction m with
 | zero => exact e
 | succ m ih => exact ih (h.2 _ _ (it_lt h m hx) (it_lt h m hy) e)

/-- pigeonhole: more than n numbers below n: two are equal -/
theorem pigeon (n : Nat) (g : Nat → Nat) (h : ∀ i, i ≤ n → g i < n) : ∃ i j, i < j ∧ j ≤ n ∧ g i = g j := by
 induction n generalizing g with
 | zero => exact absurd (h 0 (by omega)) (by omega)
 | succ n ih =>
  by_cases c : ∃ i, i < n + 1 ∧ g i = g (n + 1)
  ·obtain ⟨i, hi, e⟩ := c; exact ⟨i, n + 1, hi, by omega, e⟩
  ·have c' : ∀ i, i < n + 1 → g i ≠ g (n + 1) := fun i hi e => c ⟨i, hi, e⟩
   obtain ⟨i, j, hij, hj, e⟩ := ih (fun i => if g i = n then g (n + 1) else g i) (fun i hi => by
    have a := h i (by omega)
    have b := h (n + 1) (by omega)
    have d := c' i (by omega)
    show (if g i = n then g (n + 1) else g i) < n
    split <;> omega)
   refine ⟨i, j, hij, by omega, ?_⟩
   have di := c' i (by omega)
   have dj := c' j (by omega)
   by_cases e1 : g i = n <;> by_cases e2 : g j = n
   ·omega
   ·rw [if_pos e1, if_neg e2] at e; omega
   ·rw [if_neg e1, if_pos e2] at e; omega
   ·rw [if_neg e1, if_neg e2] at e; exact e

theorem it_back {n : Nat} {f : Nat → Nat} (h : Bij n f) {x : Nat} (hx : x < n) : ∃ m, 0 < m ∧ m ≤ n ∧ it f m x = x := by
 obtain ⟨i, j, hij, hj, e⟩ := pigeon n (fun m => it f m x) (fun m _ => it_lt h m hx)
 refine ⟨j - i, by omega, by omega, ?_⟩
 have : it f (i + (j - i)) x = it f i (it f (j - i) x) := it_add ..
 rw [show i + (j - i) = j by omega] at this
 exact (it_inj h i hx (it_lt h _ hx) (e.trans this)).symm

/-- the least positive m with p m, below a bound; else 0 -/
def least (p : Nat → Bool) (n : Nat) : Nat := ((List.range n).find? (fun m => p (m + 1))).elim 0 (· + 1)

theorem find_range_some {n : Nat} {p : Nat → Bool} {m : Nat} (h : (List.range n).find? p = some m) : m < n ∧ p m = true ∧ ∀ k, k < m → p k = false := by
 induction n generalizing m with
 | zero => simp at h
 | succ n ih =>
  rw [List.range_succ, List.find?_append] at h
  cases e : (List.range n).find? p with
  | some z =>
   rw [e] at h; simp at h; subst h
   have := ih e
   exact ⟨by omega, this.2⟩
  | none =>
   rw [e] at h
   simp at h
   obtain ⟨h1, rfl⟩ := h
   refine ⟨by omega, h1, fun k hk => ?_⟩
   rw [List.find?_eq_none] at e
   simpa using e k (by simpa using hk)

theorem least_spec {p : Nat → Bool} {n m : Nat} (hm : 0 < m) (hn : m ≤ n) (h : p m = true) :
 0 < least p n ∧ least p n ≤ m ∧ p (least p n) = true ∧ ∀ k, 0 < k → k < least p n → p k = false := by
 unfold least
 cases e : (List.range n).find? (fun m => p (m + 1)) with
 | none =>
  rw [List.find?_eq_none] at e
  have := e (m - 1) (by simp; omega)
  rw [show m - 1 + 1 = m by omega] at this
  exact absurd h this
 | some z =>
  obtain ⟨h1, h2, h3⟩ := find_range_some e
  simp only [Option.elim_some]
  refine ⟨by omega, ?_, h2, fun k hk hk2 => ?_⟩
  ·apply Nat.le_of_not_lt
   intro hlt
   have := h3 (m - 1) (by omega)
   rw [show m - 1 + 1 = m by omega, h] at this
   cases this
  ·have := h3 (k - 1) (by omega)
   rwa [show k - 1 + 1 = k by omega] at this

/-- how long the cycle of x is -/
def per (n : Nat) (f : Nat → Nat) (x : Nat) : Nat := least (fun m => it f m x == x) n

theorem per_spec {n : Nat} {f : Nat → Nat} (h : Bij n f) {x : Nat} (hx : x < n) :
 0 < per n f x ∧ per n f x ≤ n ∧ it f (per n f x) x = x ∧ ∀ k, 0 < k → k < per n f x → it f k x ≠ x := by
 obtain ⟨m, h1, h2, h3⟩ := it_back h hx
 obtain ⟨a, b, c, d⟩ := least_spec (p := fun m => it f m x == x) (n := n) h1 h2 (by simpa using h3)
 refine ⟨a, by unfold per; omega, ?_, fun k hk hk2 => by simpa using d k hk hk2⟩
 have := eq_of_beq c
 exact this

theorem it_mul_per {n : Nat} {f : Nat → Nat} (h : Bij n f) {x : Nat} (hx : x < n) (q : Nat) : it f (per n f x * q) x = x := by
 induction q with
 | zero => rfl
 | succ q ih => rw [Nat.mul_succ, it_add, (per_spec h hx).2.2.1, ih]

theorem it_mod_per {n : Nat} {f : Nat → Nat} (h : Bij n f) {x : Nat} (hx : x < n) (m : Nat) : it f m x = it f (m % per n f x) x := by
 conv => lhs; rw [← Nat.mod_add_div m (per n f x)]
 rw [it_add, it_mul_per h hx]

/-- is i the least of its cycle? -/
def isMin (n : Nat) (f : Nat → Nat) (i : Nat) : Bool := (List.range n).all fun k => decide (i ≤ it f k i)

theorem isMin_iff {n : Nat} {f : Nat → Nat} (h : Bij n f) {i : Nat} (hi : i < n) : isMin n f i = true ↔ ∀ k, i ≤ it f k i := by
 unfold isMin
 rw [List.all_eq_true]
 constructor
 ·intro a k
  rw [it_mod_per h hi]
  have p := per_spec h hi
  have := a (k % per n f i) (by rw [mem_range]; have := Nat.mod_lt k p.1; omega)
  simpa using this
 ·intro a k _
  simpa using a k

/-- the points that f leads to from x -/
def orb (f : Nat → Nat) (x y : Nat) : Prop := ∃ k, it f k x = y

theorem orb_trans {f : Nat → Nat} {x y z : Nat} : orb f x y → orb f y z → orb f x z := by
 rintro ⟨a, rfl⟩ ⟨b, rfl⟩
 exact ⟨b + a, it_add f b a x⟩

theorem orb_symm {n : Nat} {f : Nat → Nat} (h : Bij n f) {x y : Nat} (hx : x < n) : orb f x y → orb f y x := by
 rintro ⟨k, rfl⟩
 have p := per_spec h hx
 refine ⟨per n f x - k % per n f x, ?_⟩
 rw [it_mod_per h hx k, ← it_add]
 have := Nat.mod_lt k p.1
 rw [show per n f x - k % per n f x + k % per n f x = per n f x by omega]
 exact p.2.2.1

/-- the cycle of x, from x on -/
def cyc (n : Nat) (f : Nat → Nat) (x : Nat) : List Nat := (List.range (per n f x)).map (fun k => it f k x)

theorem cyc_length (n : Nat) (f : Nat → Nat) (x : Nat) : (cyc n f x).length = per n f x := by simp [cyc]

theorem it_inj_per {n : Nat} {f : Nat → Nat} (h : Bij n f) {x : Nat} (hx : x < n) {a b : Nat} (ha : a < per n f x) (hb : b < per n f x) (e : it f a x = it f b x) : a = b := by
 have key : ∀ a b, a < b → b < per n f x → it f a x = it f b x → False := by
  intro a b hab hb e
  have : it f (a + (b - a)) x = it f a (it f (b - a) x) := it_add ..
  rw [show a + (b - a) = b by omega, ← e] at this
  exact (per_spec h hx).2.2.2 (b - a) (by omega) (by omega) (it_inj h a hx (it_lt h _ hx) this).symm
 rcases Nat.lt_trichotomy a b with c | c | c
 ·exact (key a b c hb e).elim
 ·exact c
 ·exact (key b a c ha e.symm).elim

theorem isMin_iff' {n : Nat} {f : Nat → Nat} (h : Bij n f) {i : Nat} (hi : i < n) : isMin n f i = true ↔ ∀ j, j < i → ¬ orb f j i := by
 rw [isMin_iff h hi]
 constructor
 ·rintro a j hj ⟨k, e⟩
  obtain ⟨k', e'⟩ := orb_symm h (by omega : j < n) ⟨k, e⟩
  have := a k'
  omega
 ·intro a k
  apply Nat.le_of_not_lt
  intro hlt
  exact a _ hlt (orb_symm h hi ⟨k, rfl⟩)

/-- the least points of the cycles -/
def mins (n : Nat) (f : Nat → Nat) : List Nat := (List.range n).filter (isMin n f)

theorem mem_mins {n : Nat} {f : Nat → Nat} {i : Nat} : i ∈ mins n f ↔ i < n ∧ isMin n f i = true := by
 unfold mins; rw [mem_filter, mem_range]
end Go.Proofs.YtieaplnngmgkeaaDoor.Sm
namespace Go.Proofs.YtieaplnngmgkeaaDoor.R
open Go.RowKit Go.Proofs.YtieaplnngmgkeaaDoorW.PrintWords Go.Proofs.YtieaplnngmgkeaaDoorW.PrintLast Go.Proofs.YtieaplnngmgkeaaDoorW.PrintMore Go.Proofs.YtieaplnngmgkeaaDoor.F Go.Proofs.YtieaplnngmgkeaaDoor.Sm
theorem Ev.pos {α : Type} {c : Prop} [Decidable c] {A B : Nat → Option α} {r : α} (h : c) (k : Ev A r) : Ev (fun n => if c then A n else B n) r := by
 simp only [if_pos h]; exact k

theorem Ev.neg {α : Type} {c : Prop} [Decidable c] {A B : Nat → Option α} {r : α} (h : ¬ c) (k : Ev B r) : Ev (fun n => if c then A n else B n) r := by
 simp only [if_neg h]; exact k

theorem Ev.bind1 {α β : Type} {g : Nat → Option α} {f : Nat → α → Option β} {a : α} {r : β} (h : Ev g a) (k : Ev (fun n => f n a) r) : Ev (fun n => (g n).bind (f n)) r := Ev.bind h k

theorem Ev.some1 {α β : Type} {f : Nat → α → Option β} {a : α} {r : β} (k : Ev (fun n => f n a) r) : Ev (fun n => (some a).bind (f n)) r := k

theorem wrap_nat {i : Nat} (h : i < 9223372036854775807) : wrap64 ((i : Int) + 1) = ((i + 1 : Nat) : Int) := by unfold wrap64; omega

theorem wrap_in {n : Int} (h1 : -9223372036854775808 ≤ n) (h2 : n ≤ 9223372036854775807) : wrap64 n = n := by unfold wrap64; omega

theorem rd_get {l : List Int} {i : Nat} (h : i < l.length) : rd l (i : Int) = l[i] := by
 unfold rd; simp [h]

theorem rd_pm {n : Nat} {f : Nat → Nat} {i : Nat} (h : i < n) : rd (pm n f) (i : Int) = (f i : Int) := by
 unfold rd; exact pm_getD n f i h

theorem toIntS_loop (l : List Int) (hl : l.length ≤ 1048576) : ∀ d i (s : List Int), i + d = l.length → s.length = l.length → Ev (fun k => laws_toIntS.l0 k l s (i : Int)) (s.take i ++ l.drop i) := by
 intro d
 induction d with
 | zero =>
  intro i s hi hs
  refine Ev.step (f := fun _ => some s) (fun k => by rw [laws_toIntS.l0, if_neg (by omega)]) ?_
  rw [List.take_of_length_le (by omega), List.drop_of_length_le (by omega), List.append_nil]
  exact Ev.now _
 | succ d ih =>
  intro i s hi hs
  refine Ev.step (f := fun k => laws_toIntS.l0 k l (s.set i (rd l i)) ((i + 1 : Nat) : Int)) (fun k => by
   rw [laws_toIntS.l0, if_pos (by omega), if_pos (by omega), if_pos (by omega), wrap_nat (by omega)]; rfl) ?_
  have := ih (i + 1) (s.set i (rd l i)) (by omega) (by simp [hs])
  have e : (s.set i (rd l i)).take (i + 1) ++ l.drop (i + 1) = s.take i ++ l.drop i := by
   rw [List.drop_eq_getElem_cons (show i < l.length by omega), rd_get (by omega)]
   rw [List.take_succ_eq_append_getElem (by simp; omega)]
   rw [List.take_set_of_le (Nat.le_refl i)]
   simp
  rw [e] at this
  exact this

theorem toIntS_ev {l : List Int} (hl : l.length ≤ 1048576) : Ev (fun k => laws_toIntS.f k l) l := by
 unfold laws_toIntS.f
 refine Ev.pos (by omega) (Ev.pos (by omega) ?_)
 have := toIntS_loop l hl l.length 0 (List.replicate l.length 0) (by omega) (by simp)
 simpa using this

theorem eqIntS_loop (a b : List Int) (hl : a.length = b.length) (hb : a.length ≤ 1048576) : ∀ d i, i + d = a.length → Ev (fun k => laws_eqIntS.l0 k a b (i : Int)) (decide (a.drop i = b.drop i)) := by
 intro d
 induction d with
 | zero =>
  intro i hi
  refine Ev.step (f := fun _ => some true) (fun k => by rw [laws_eqIntS.l0, if_neg (by omega)]) ?_
  rw [List.drop_of_length_le (by omega), List.drop_of_length_le (by omega)]
  exact Ev.now _
 | succ d ih =>
  intro i hi
  have ha : i < a.length := by omega
  have hb' : i < b.length := by omega
  rw [List.drop_eq_getElem_cons ha, List.drop_eq_getElem_cons hb']
  by_cases c : a[i] = b[i]
  ·refine Ev.step (f := fun k => laws_eqIntS.l0 k a b ((i + 1 : Nat) : Int)) (fun k => by
    rw [laws_eqIntS.l0, if_pos (by omega), if_pos (by omega), if_pos (by omega), rd_get ha, rd_get hb', if_pos c, wrap_nat (by omega)]) ?_
   have e : decide (a[i] :: a.drop (i + 1) = b[i] :: b.drop (i + 1)) = decide (a.drop (i + 1) = b.drop (i + 1)) := by
    simp only [List.cons.injEq, c, true_and]
   rw [e]
   exact ih (i + 1) (by omega)
  ·refine Ev.step (f := fun k => some false) (fun k => by
    rw [laws_eqIntS.l0, if_pos (by omega), if_pos (by omega), if_pos (by omega), rd_get ha, rd_get hb', if_neg c]) ?_
   have : decide (a[i] :: a.drop (i + 1) = b[i] :: b.drop (i + 1)) = false := by
    simp only [List.cons.injEq, c, false_and, decide_false]
   rw [this]
   exact Ev.now _

theorem eqIntS_ev {a b : List Int} (hb : a.length ≤ 1048576) : Ev (fun k => laws_eqIntS.f k a b) (decide (a = b)) := by
 unfold laws_eqIntS.f
 by_cases c : a.length = b.length
 ·refine Ev.pos (by omega) ?_
  exact eqIntS_loop a b c hb a.length 0 (by omega)
 ·have : decide (a = b) = false := by simp; intro e; exact c (by rw [e])
  rw [this]
  exact Ev.neg (by omega) (Ev.now _)

/-- a list that is a permutation -/
def IsPerm (n : Nat) (l : List Int) (f : Nat → Nat) : Prop := 1 ≤ n ∧ n ≤ 12 ∧ Bij n f ∧ l = pm n f

theorem valid_iff (l : List Int) : impl_PermValid.validB l = true ↔ ∃ f, IsPerm l.length l f := by
 unfold impl_PermValid.validB
 simp only [Bool.and_eq_true, decide_eq_true_eq, List.all_eq_true, List.mem_range]
 constructor
 ·rintro ⟨⟨h1, h2⟩, h3⟩
  have h3' : ∀ i, i < l.length → 0 ≤ rd l i ∧ rd l i < l.length ∧ ∀ j, j < i → rd l j ≠ rd l i := by
   intro i hi
   have := h3 i hi
   unfold impl_PermValid.okAt at this
   simp only [Bool.and_eq_true, decide_eq_true_eq, Bool.not_eq_true', List.contains_eq_mem, decide_eq_false_iff_not] at this
   refine ⟨this.1.1, this.1.2, fun j hj e => this.2 ?_⟩
   rw [← e, rd_get (show j < l.length by omega)]
   rw [List.mem_iff_getElem]
   exact ⟨j, by simp; omega, by simp⟩
  refine ⟨fun i => (rd l i).toNat, h1, h2, ⟨fun i hi => by have := h3' i hi; show (rd l i).toNat < _; omega, fun i j hi hj e => ?_⟩, ?_⟩
  ·have a := h3' i hi
   have b := h3' j hj
   have e' : (rd l i).toNat = (rd l j).toNat := e
   rcases Nat.lt_trichotomy i j with c | c | c
   ·exact (b.2.2 i c (by omega)).elim
   ·exact c
   ·exact (a.2.2 j c (by omega)).elim
  ·refine eq_pm _ _ _ rfl fun i hi => ?_
   have := h3' i hi
   show l.getD i 0 = (((rd l i).toNat : Nat) : Int)
   have e : l.getD i 0 = rd l i := rfl
   omega
 ·rintro ⟨f, h1, h2, hf, e⟩
  refine ⟨⟨h1, h2⟩, fun i hi => ?_⟩
  have r : ∀ j, j < l.length → rd l j = (f j : Int) := fun j hj => by
   have := rd_pm (n := l.length) (f := f) hj
   rwa [← e] at this
  unfold impl_PermValid.okAt
  simp only [Bool.and_eq_true, decide_eq_true_eq, Bool.not_eq_true', List.contains_eq_mem, decide_eq_false_iff_not]
  refine ⟨⟨by rw [r i hi]; omega, by rw [r i hi]; have := hf.1 i hi; omega⟩, fun hm => ?_⟩
  rw [List.mem_iff_getElem] at hm
  obtain ⟨j, hj, ej⟩ := hm
  have hj' : j < i := by simp at hj; omega
  have : l[j]'(by omega) = rd l i := by simpa using ej
  rw [← rd_get (show j < l.length by omega), r i hi, r j (by omega)] at this
  have := hf.2 j i (by omega) hi (by omega)
  omega

theorem implValid_ev (l : List Int) : Ev (fun _ => impl_PermValid.f l) (impl_PermValid.validB l) := Ev.now _

/-- the reference's look: up to i all is well -/
theorem specValid_ev (l : List Int) (hl : l.length ≤ 4294967296) : Ev (fun k => spec_PermValid.f k l) (impl_PermValid.validB l) := by
 have e0 : ∀ (a b c : Int), spec_l6In.f a b c = some (decide (b ≤ a) && decide (a ≤ c)) := by
  intro a b c
  unfold spec_l6In.f
  by_cases h : b ≤ a
  ·rw [if_pos h]; simp [h]
  ·rw [if_neg h]; simp [h]
 -- the inner loop
 have inner : ∀ d i j, i < l.length → j + d = i → (∀ m, m < j → rd l m ≠ rd l i) → ∀ r, ((∀ m, m < i → rd l m ≠ rd l i) → Ev (fun k => spec_PermValid.l0 k l ((i + 1 : Nat) : Int)) r) → ((∃ m, m < i ∧ rd l m = rd l i) → r = false) → Ev (fun k => spec_PermValid.l1 k l (i : Int) (j : Int)) r := by
  intro d
  induction d with
  | zero =>
   intro i j hi hj hm r h1 h2
   refine Ev.step (f := fun k => spec_PermValid.l0 k l ((i + 1 : Nat) : Int)) (fun k => by rw [spec_PermValid.l1, if_neg (by omega), wrap_nat (by omega)]) ?_
   exact h1 (fun m hmi => hm m (by omega))
  | succ d ih =>
   intro i j hi hj hm r h1 h2
   by_cases c : rd l (j : Int) = rd l (i : Int)
   ·have := h2 ⟨j, by omega, c⟩
    subst this
    refine Ev.step (f := fun k => some false) (fun k => by
     rw [spec_PermValid.l1, if_pos (by omega), if_pos (by omega), if_pos (by omega), if_pos (by omega), if_pos (by omega), if_pos c]) (Ev.now _)
   ·refine Ev.step (f := fun k => spec_PermValid.l1 k l (i : Int) ((j + 1 : Nat) : Int)) (fun k => by
     rw [spec_PermValid.l1, if_pos (by omega), if_pos (by omega), if_pos (by omega), if_pos (by omega), if_pos (by omega), if_neg c, wrap_nat (by omega)]) ?_
    refine ih i (j + 1) hi (by omega) (fun m hm' => ?_) r h1 h2
    by_cases e : m = j
    ·subst e; exact c
    ·exact hm m (by omega)
 have outer : ∀ d i, i + d = l.length → (∀ m, m < i → impl_PermValid.okAt l m = true) → Ev (fun k => spec_PermValid.l0 k l (i : Int)) (impl_PermValid.validB l) := by
  intro d
  induction d with
  | zero =>
   intro i hi hm
   have e : impl_PermValid.validB l = (decide ((1 : Int) ≤ (l.length : Int)) && decide ((l.length : Int) ≤ 12)) := by
    unfold impl_PermValid.validB
    have : (List.range l.length).all (impl_PermValid.okAt l) = true := by
     rw [List.all_eq_true]; intro m hm'; exact hm m (by have := List.mem_range.1 hm'; omega)
    rw [this]
    rw [Bool.and_true]
    congr 1
    ·simp; omega
    ·simp; omega
   refine Ev.step (f := fun _ => some (impl_PermValid.validB l)) (fun k => by rw [spec_PermValid.l0, if_neg (by omega), e0, e]; rfl) (Ev.now _)
  | succ d ih =>
   intro i hi hm
   have hil : i < l.length := by omega
   have fail : impl_PermValid.okAt l i = false → impl_PermValid.validB l = false := impl_PermValid.valid_fail l i hil
   have ew : wrap64 ((l.length : Int) - 1) = (l.length : Int) - 1 := wrap_in (by omega) (by omega)
   by_cases c : 0 ≤ rd l (i : Int) ∧ rd l (i : Int) ≤ (l.length : Int) - 1
   ·refine Ev.step (f := fun k => spec_PermValid.l1 k l (i : Int) ((0 : Nat) : Int)) (fun k => by
     rw [spec_PermValid.l0, if_pos (by omega), if_pos (by omega), e0, ew]
     simp only [Option.bind_some]
     rw [if_pos (by simp [c.1, c.2])]; rfl) ?_
    refine inner i i 0 hil (by omega) (fun m hm' => absurd hm' (by omega)) _ (fun hd => ?_) (fun hd => ?_)
    ·refine ih (i + 1) (by omega) (fun m hm' => ?_)
     by_cases e : m = i
     ·subst e
      unfold impl_PermValid.okAt
      simp only [Bool.and_eq_true, decide_eq_true_eq, Bool.not_eq_true', List.contains_eq_mem, decide_eq_false_iff_not]
      refine ⟨⟨c.1, by omega⟩, fun hx => ?_⟩
      rw [List.mem_iff_getElem] at hx
      obtain ⟨j, hj, ej⟩ := hx
      have hj' : j < m := by simp at hj; omega
      have : l[j]'(by omega) = rd l m := by simpa using ej
      rw [← rd_get (show j < l.length by omega)] at this
      exact hd j hj' this
     ·exact hm m (by omega)
    ·obtain ⟨m, hmi, em⟩ := hd
     apply fail
     unfold impl_PermValid.okAt
     have : (l.take i).contains (rd l i) = true := by
      rw [List.contains_eq_mem, decide_eq_true_eq, ← em, rd_get (show m < l.length by omega), List.mem_iff_getElem]
      exact ⟨m, by simp; omega, by simp⟩
     simp only [this, Bool.not_true, Bool.and_false]
   ·have : impl_PermValid.validB l = false := by
     apply fail
     unfold impl_PermValid.okAt
     by_cases c1 : 0 ≤ rd l (i : Int)
     ·have : ¬ rd l (i : Int) < l.length := by omega
      simp [this]
     ·simp [c1]
    rw [this]
    refine Ev.step (f := fun k => some false) (fun k => by
     rw [spec_PermValid.l0, if_pos (by omega), if_pos (by omega), e0, ew]
     simp only [Option.bind_some]
     rw [if_neg]
     simp only [Bool.and_eq_true, decide_eq_true_eq]
     exact c) (Ev.now _)
 unfold spec_PermValid.f
 exact outer l.length 0 (by omega) (fun m hm => absurd hm (by omega))

def ints (l : List Nat) : List Int := l.map fun (x : Nat) => (x : Int)

def cycsTo (n : Nat) (f : Nat → Nat) (i : Nat) : List (List Int) := ((List.range i).filter (isMin n f)).map fun m => ints (cyc n f m)

/-- all cycles, as lists of numbers -/
def cycsL (n : Nat) (f : Nat → Nat) : List (List Int) := cycsTo n f n

theorem cycsTo_len (n : Nat) (f : Nat → Nat) (i : Nat) : (cycsTo n f i).length ≤ i := by
 unfold cycsTo
 rw [List.length_map]
 have := List.length_filter_le (isMin n f) (List.range i)
 simpa using this

def seenTo (n : Nat) (f : Nat → Nat) (i : Nat) (s : List Bool) : Prop := s.length = n ∧ ∀ x, x < n → (rdOf false s (x : Int) = true ↔ ∃ j, j < i ∧ orb f j x)

def seenIn (n : Nat) (f : Nat → Nat) (i k : Nat) (s : List Bool) : Prop := s.length = n ∧ ∀ x, x < n → (rdOf false s (x : Int) = true ↔ (∃ j, j < i ∧ orb f j x) ∨ ∃ m, m < k ∧ it f m i = x)

theorem rdOf_set {s : List Bool} {a b : Nat} {v : Bool} (h : a < s.length) : rdOf false (s.set a v) (b : Int) = if a = b then v else rdOf false s (b : Int) := by
 unfold rdOf
 simp only [Int.toNat_natCast, List.getD_eq_getElem?_getD, List.getElem?_set]
 by_cases e : a = b
 ·subst e; simp [h]
 ·simp [e]

theorem seen_start (n : Nat) (f : Nat → Nat) : seenTo n f 0 (List.replicate n false) := by
 refine ⟨by simp, fun x hx => ?_⟩
 unfold rdOf
 constructor
 ·intro h; simp [List.getD_eq_getElem?_getD, hx] at h
 ·rintro ⟨j, hj, _⟩; omega

theorem seen_in {n : Nat} {f : Nat → Nat} {i : Nat} {s : List Bool} (h : seenTo n f i s) : seenIn n f i 0 s :=
 ⟨h.1, fun x hx => by rw [h.2 x hx]; exact ⟨.inl, fun e => e.elim id (fun ⟨m, hm, _⟩ => absurd hm (by omega))⟩⟩

theorem seen_step {n : Nat} {f : Nat → Nat} (hf : Bij n f) {i k : Nat} (hi : i < n) {s : List Bool} (h : seenIn n f i k s) : seenIn n f i (k + 1) (s.set (it f k i) true) := by
 have hk := it_lt hf k hi
 refine ⟨by simp [h.1], fun x hx => ?_⟩
 rw [rdOf_set (by rw [h.1]; exact hk)]
 by_cases e : it f k i = x
 ·rw [if_pos e]
  exact ⟨fun _ => .inr ⟨k, by omega, e⟩, fun _ => rfl⟩
 ·rw [if_neg e, h.2 x hx]
  constructor
  ·rintro (a | ⟨m, hm, b⟩)
   ·exact .inl a
   ·exact .inr ⟨m, by omega, b⟩
  ·rintro (a | ⟨m, hm, b⟩)
   ·exact .inl a
   ·refine .inr ⟨m, ?_, b⟩
    apply Nat.lt_of_le_of_ne (by omega)
    intro d; subst d; exact e b

theorem seen_end {n : Nat} {f : Nat → Nat} (hf : Bij n f) {i : Nat} (hi : i < n) {s : List Bool} (h : seenIn n f i (per n f i) s) : seenTo n f (i + 1) s := by
 refine ⟨h.1, fun x hx => ?_⟩
 rw [h.2 x hx]
 constructor
 ·rintro (⟨j, hj, o⟩ | ⟨m, hm, e⟩)
  ·exact ⟨j, by omega, o⟩
  ·exact ⟨i, by omega, m, e⟩
 ·rintro ⟨j, hj, o⟩
  by_cases e : j = i
  ·subst e
   obtain ⟨m, em⟩ := o
   exact .inr ⟨m % per n f j, Nat.mod_lt _ (per_spec hf hi).1, by rw [← it_mod_per hf hi]; exact em⟩
  ·exact .inl ⟨j, by omega, o⟩

theorem seen_skip {n : Nat} {f : Nat → Nat} (hf : Bij n f) {i : Nat} (hi : i < n) {s : List Bool} (h : seenTo n f i s) (hs : rdOf false s (i : Int) = true) : seenTo n f (i + 1) s := by
 refine ⟨h.1, fun x hx => ?_⟩
 rw [h.2 x hx]
 obtain ⟨j, hj, o⟩ := (h.2 i hi).1 hs
 constructor
 ·rintro ⟨j, hj, o⟩; exact ⟨j, by omega, o⟩
 ·rintro ⟨j', hj', o'⟩
  by_cases e : j' = i
  ·subst e; exact ⟨j, hj, orb_trans o o'⟩
  ·exact ⟨j', by omega, o'⟩

theorem seen_min {n : Nat} {f : Nat → Nat} (hf : Bij n f) {i : Nat} (hi : i < n) {s : List Bool} (h : seenTo n f i s) : rdOf false s (i : Int) = !isMin n f i := by
 rw [Bool.eq_iff_iff, h.2 i hi, Bool.not_eq_true']
 constructor
 ·rintro ⟨j, hj, o⟩
  apply Bool.eq_false_iff.2
  intro m
  exact (isMin_iff' hf hi).1 m j hj o
 ·intro m
  apply Classical.byContradiction
  intro c
  have : isMin n f i = true := (isMin_iff' hf hi).2 fun j hj o => c ⟨j, hj, o⟩
  rw [m] at this; cases this

theorem seen_new {n : Nat} {f : Nat → Nat} (hf : Bij n f) {i k : Nat} (hi : i < n) {s : List Bool} (h : seenIn n f i k s) (hm : isMin n f i = true) (hk : k < per n f i) : rdOf false s (it f k i : Int) = false := by
 apply Bool.eq_false_iff.2
 intro c
 rcases (h.2 _ (it_lt hf k hi)).1 c with ⟨j, hj, o⟩ | ⟨m, hmk, e⟩
 ·exact (isMin_iff' hf hi).1 hm j hj (orb_trans o (orb_symm hf hi ⟨k, rfl⟩))
 ·have := it_inj_per hf hi (by omega) hk e
  omega

theorem seen_old {n : Nat} {f : Nat → Nat} (hf : Bij n f) {i : Nat} (hi : i < n) {s : List Bool} (h : seenIn n f i (per n f i) s) : rdOf false s (it f (per n f i) i : Int) = true := by
 have p := per_spec hf hi
 rw [p.2.2.1]
 exact (h.2 i hi).2 (.inr ⟨0, p.1, rfl⟩)

theorem cycsTo_succ (n : Nat) (f : Nat → Nat) (i : Nat) : cycsTo n f (i + 1) = if isMin n f i = true then cycsTo n f i ++ [ints (cyc n f i)] else cycsTo n f i := by
 unfold cycsTo
 rw [List.range_succ, List.filter_append, List.map_append]
 by_cases c : isMin n f i = true
 ·simp [c]
 ·simp [c]

def cycTo (f : Nat → Nat) (i k : Nat) : List Int := ints ((List.range k).map fun m => it f m i)

theorem cycTo_succ (f : Nat → Nat) (i k : Nat) : cycTo f i (k + 1) = cycTo f i k ++ [(it f k i : Int)] := by simp [cycTo, ints, List.range_succ]

theorem cycTo_len (f : Nat → Nat) (i k : Nat) : (cycTo f i k).length = k := by simp [cycTo, ints]

theorem implCycles_ev {n : Nat} {f : Nat → Nat} (hn : n ≤ 1000) (hf : Bij n f) : Ev (fun k => impl_cyclesOf.f k (pm n f)) (cycsL n f) := by
 have outer : ∀ d i (s : List Bool), i + d = n → seenTo n f i s → Ev (fun k => impl_cyclesOf.l0 k (pm n f) (cycsTo n f i) s (n : Int) (i : Int)) (cycsL n f) := by
  intro d
  induction d with
  | zero =>
   intro i s hi hs
   have e : i = n := by omega
   subst e
   exact Ev.step (f := fun _ => some (cycsTo i f i)) (fun k => by rw [impl_cyclesOf.l0, if_neg (by omega)]) (Ev.now _)
  | succ d ih =>
   intro i s hi hs
   have hin : i < n := by omega
   have cl := cycsTo_len n f i
   refine Ev.step (f := fun k => impl_cyclesOf.l1 k (pm n f) (cycsTo n f i) s [] (i : Int) (n : Int) (i : Int)) (fun k => by rw [impl_cyclesOf.l0, if_pos (by omega)]) ?_
   by_cases hm : isMin n f i = true
   ·have inner : ∀ e k (s : List Bool), k + e = per n f i → seenIn n f i k s → Ev (fun q => impl_cyclesOf.l1 q (pm n f) (cycsTo n f i) s (cycTo f i k) (it f k i : Int) (n : Int) (i : Int)) (cycsL n f) := by
     intro e
     induction e with
     | zero =>
      intro k s hk hs
      have ek : k = per n f i := by omega
      subst ek
      have p := per_spec hf hin
      have ho := seen_old hf hin hs
      refine Ev.step (f := fun q => impl_cyclesOf.l0 q (pm n f) (cycsTo n f (i + 1)) s (n : Int) ((i + 1 : Nat) : Int)) (fun q => by
       rw [impl_cyclesOf.l1, if_pos (by omega), if_pos (by rw [hs.1]; have := it_lt hf (per n f i) hin; omega), if_pos ho, if_pos (by rw [cycTo_len]; omega), if_pos (by omega), wrap_nat (by omega), cycsTo_succ, if_pos hm]; rfl) ?_
      exact ih (i + 1) s (by omega) (seen_end hf hin hs)
     | succ e ihe =>
      intro k s hk hs
      have hkn := it_lt hf k hin
      have p := per_spec hf hin
      have hnew := seen_new hf hin hs hm (by omega)
      refine Ev.step (f := fun q => impl_cyclesOf.l1 q (pm n f) (cycsTo n f i) (s.set (it f k i) true) (cycTo f i (k + 1)) (it f (k + 1) i : Int) (n : Int) (i : Int)) (fun q => by
       rw [impl_cyclesOf.l1, if_pos (by omega), if_pos (by rw [hs.1]; omega), if_neg (by rw [hnew]; simp), if_pos (by rw [cycTo_len]; omega), if_pos (by rw [pm_length]; omega), rd_pm hkn, cycTo_succ]; rfl) ?_
      exact ihe (k + 1) _ (by omega) (seen_step hf hin hs)
    exact inner (per n f i) 0 s (by omega) (seen_in hs)
   ·have ht : rdOf false s (i : Int) = true := by rw [seen_min hf hin hs]; simp [hm]
    refine Ev.step (f := fun q => impl_cyclesOf.l0 q (pm n f) (cycsTo n f (i + 1)) s (n : Int) ((i + 1 : Nat) : Int)) (fun q => by
     rw [impl_cyclesOf.l1, if_pos (by omega), if_pos (by rw [hs.1]; omega), if_pos ht, if_neg (by simp), wrap_nat (by omega), cycsTo_succ, if_neg hm]) ?_
    exact ih (i + 1) s (by omega) (seen_skip hf hin hs ht)
 unfold impl_cyclesOf.f
 simp only [pm_length]
 refine Ev.pos (by omega) (Ev.pos (by omega) ?_)
 have := outer n 0 _ (by omega) (seen_start n f)
 simpa [cycsTo] using this

theorem specCycles_ev {n : Nat} {f : Nat → Nat} (hn : n ≤ 1000) (hf : Bij n f) : Ev (fun k => spec_l1Cycles.f k (pm n f)) (cycsL n f) := by
 have outer : ∀ d i (s : List Bool), i + d = n → seenTo n f i s → Ev (fun k => spec_l1Cycles.l0 k (pm n f) (cycsTo n f i) s (i : Int)) (cycsL n f) := by
  intro d
  induction d with
  | zero =>
   intro i s hi hs
   have e : i = n := by omega
   subst e
   exact Ev.step (f := fun _ => some (cycsTo i f i)) (fun k => by rw [spec_l1Cycles.l0, if_neg (by rw [pm_length]; omega)]) (Ev.now _)
  | succ d ih =>
   intro i s hi hs
   have hin : i < n := by omega
   have cl := cycsTo_len n f i
   by_cases hm : isMin n f i = true
   ·have hnew : rdOf false s (i : Int) = false := by rw [seen_min hf hin hs]; simp [hm]
    refine Ev.step (f := fun k => spec_l1Cycles.l1 k (pm n f) (cycsTo n f i) s (i : Int) [] (i : Int)) (fun k => by
     rw [spec_l1Cycles.l0, if_pos (by rw [pm_length]; omega), if_pos (by omega), if_pos (by rw [hs.1]; omega), if_neg (by rw [hnew]; simp)]) ?_
    have inner : ∀ e k (s : List Bool), k + e = per n f i → seenIn n f i k s → Ev (fun q => spec_l1Cycles.l1 q (pm n f) (cycsTo n f i) s (i : Int) (cycTo f i k) (it f k i : Int)) (cycsL n f) := by
     intro e
     induction e with
     | zero =>
      intro k s hk hs
      have ek : k = per n f i := by omega
      subst ek
      have p := per_spec hf hin
      have ho := seen_old hf hin hs
      refine Ev.step (f := fun q => spec_l1Cycles.l0 q (pm n f) (cycsTo n f (i + 1)) s ((i + 1 : Nat) : Int)) (fun q => by
       rw [spec_l1Cycles.l1, if_pos (by omega), if_pos (by rw [hs.1]; have := it_lt hf (per n f i) hin; omega), if_pos ho, if_pos (by omega), wrap_nat (by omega), cycsTo_succ, if_pos hm]; rfl) ?_
      exact ih (i + 1) s (by omega) (seen_end hf hin hs)
     | succ e ihe =>
      intro k s hk hs
      have hkn := it_lt hf k hin
      have p := per_spec hf hin
      have hnew := seen_new hf hin hs hm (by omega)
      refine Ev.step (f := fun q => spec_l1Cycles.l1 q (pm n f) (cycsTo n f i) (s.set (it f k i) true) (i : Int) (cycTo f i (k + 1)) (it f (k + 1) i : Int)) (fun q => by
       rw [spec_l1Cycles.l1, if_pos (by omega), if_pos (by rw [hs.1]; omega), if_neg (by rw [hnew]; simp), if_pos (by rw [cycTo_len]; omega), if_pos (by rw [pm_length]; omega), rd_pm hkn, cycTo_succ]; rfl) ?_
      exact ihe (k + 1) _ (by omega) (seen_step hf hin hs)
    exact inner (per n f i) 0 s (by omega) (seen_in hs)
   ·have ht : rdOf false s (i : Int) = true := by rw [seen_min hf hin hs]; simp [hm]
    refine Ev.step (f := fun q => spec_l1Cycles.l0 q (pm n f) (cycsTo n f (i + 1)) s ((i + 1 : Nat) : Int)) (fun q => by
     rw [spec_l1Cycles.l0, if_pos (by rw [pm_length]; omega), if_pos (by omega), if_pos (by rw [hs.1]; omega), if_pos ht, wrap_nat (by omega), cycsTo_succ, if_neg hm]) ?_
    exact ih (i + 1) s (by omega) (seen_skip hf hin hs ht)
 unfold spec_l1Cycles.f
 simp only [pm_length]
 refine Ev.pos (by omega) (Ev.pos (by omega) ?_)
 have := outer n 0 _ (by omega) (seen_start n f)
 simpa [cycsTo] using this

theorem isPerm_len {n : Nat} {a : List Int} {f : Nat → Nat} (h : IsPerm n a f) : a.length = n := by rw [h.2.2.2, pm_length]

theorem isPerm_valid {n : Nat} {a : List Int} {f : Nat → Nat} (h : IsPerm n a f) : impl_PermValid.validB a = true :=
 (valid_iff a).2 ⟨f, by rw [isPerm_len h]; exact h⟩

theorem ints_len (l : List Nat) : (ints l).length = l.length := by simp [ints]

theorem ints_rd {l : List Nat} {i : Nat} (h : i < l.length) : rd (ints l) (i : Int) = (l[i] : Int) := by
 rw [rd_get (by rw [ints_len]; exact h)]; simp [ints]

theorem specPermCycles_pm {n : Nat} {a : List Int} {f : Nat → Nat} (h : IsPerm n a f) : Ev (fun k => spec_PermCycles.f k a) (cycsL n f, true) := by
 have h12 := h.2.1
 have hl := isPerm_len h
 unfold spec_PermCycles.f
 refine Ev.bind1 (specValid_ev a (by omega)) (Ev.pos (isPerm_valid h) ?_)
 rw [h.2.2.2]
 exact Ev.bind1 (specCycles_ev (by omega) h.2.2.1) (Ev.now _)

theorem cycsL_mem {n : Nat} {f : Nat → Nat} {c : List Int} (h : c ∈ cycsL n f) : ∃ m, m < n ∧ isMin n f m = true ∧ c = ints (cyc n f m) := by
 unfold cycsL cycsTo at h
 obtain ⟨m, hm, e⟩ := List.mem_map.1 h
 have := mem_mins.1 hm
 exact ⟨m, this.1, this.2, e.symm⟩

theorem cycsL_len {n : Nat} {f : Nat → Nat} : (cycsL n f).length ≤ n := cycsTo_len n f n

theorem cyc_rd {n : Nat} {f : Nat → Nat} {m i : Nat} (h : i < per n f m) : rd (ints (cyc n f m)) (i : Int) = (it f i m : Int) := by
 rw [ints_rd (by rw [cyc_length]; exact h)]; simp [cyc]

theorem cyc_len {n : Nat} {f : Nat → Nat} {m : Nat} : (ints (cyc n f m)).length = per n f m := by rw [ints_len, cyc_length]

def bA (l : List UInt8) : ByteArray := ⟨l.toArray⟩

theorem bA_append (a b : List UInt8) : bA a ++ bA b = bA (a ++ b) := by
 apply ByteArray.ext
 simp [bA, ByteArray.data_append]

theorem bA_size (a : List UInt8) : (bA a).size = a.length := rfl

theorem bA_toList (a : List UInt8) : (bA a).toList = a := ByteArray.toList_mk a

theorem dec1 {n : Nat} (h : n < 10) : Lib.decDigits n = [UInt8.ofNat (48 + n)] := by
 rw [Lib.decDigits, dif_pos h]

theorem dec2 {n : Nat} (h : ¬ n < 10) : Lib.decDigits n = Lib.decDigits (n / 10) ++ [UInt8.ofNat (48 + n % 10)] := by
 rw [Lib.decDigits, dif_neg h]

theorem dec_len {n : Nat} (h : n < 100) : (Lib.decDigits n).length ≤ 2 := by
 by_cases c : n < 10
 ·rw [dec1 c]; simp
 ·rw [dec2 c, dec1 (by omega)]; simp

theorem digit_str {m : Nat} (h : m < 10) : strOfNums [(wrap64 (48 + (m : Int))) % 256] = bA [UInt8.ofNat (48 + m)] := by
 have w : wrap64 (48 + (m : Int)) % 256 = ((48 + m : Nat) : Int) := by unfold wrap64; omega
 rw [w]
 unfold strOfNums bA
 simp only [List.map_cons, List.map_nil, Int.toNat_natCast]

theorem l6Dec_ev : ∀ {n : Nat}, n < 100 → Ev (fun k => spec_l6Dec.f k (n : Int)) (bA (Lib.decDigits n)) := by
 have small : ∀ {n : Nat}, n < 10 → Ev (fun k => spec_l6Dec.f k (n : Int)) (bA (Lib.decDigits n)) := by
  intro n h
  refine Ev.step (fun k => by rw [spec_l6Dec.f]) ?_
  refine Ev.neg (by omega) (Ev.neg (by omega) (Ev.pos (by omega) ?_))
  rw [digit_str h, dec1 h]
  exact Ev.now _
 intro n h
 by_cases c : n < 10
 ·exact small c
 refine Ev.step (fun k => by rw [spec_l6Dec.f]) ?_
 have e1 : wrap64 (Int.tdiv (n : Int) 10) = ((n / 10 : Nat) : Int) := by
  rw [Int.tdiv_eq_ediv_of_nonneg (Int.natCast_nonneg n)]
  unfold wrap64; omega
 have e2 : Int.tmod (n : Int) 10 = ((n % 10 : Nat) : Int) := by
  rw [Int.tmod_eq_emod_of_nonneg (Int.natCast_nonneg n)]; omega
 rw [e1, e2]
 have l := dec_len h
 rw [dec2 c] at l ⊢
 refine Ev.neg (by omega) (Ev.neg (by omega) (Ev.neg (by omega) (Ev.bind1 (small (n := n / 10) (by omega)) (Ev.some1 ?_))))
 rw [digit_str (m := n % 10) (by omega), bA_append, bA_size, bA_size]
 rw [List.length_append] at l
 exact Ev.pos (by omega) (Ev.now _)

/-- a row of numbers below a hundred -/
def Low (c : List Int) : Prop := c.length ≤ 12 ∧ ∀ j, j < c.length → ∃ m : Nat, m < 100 ∧ rd c (j : Int) = m

theorem items_len {c : List Int} (h : ∀ x, x ∈ c → ∃ m : Nat, m < 100 ∧ x = m) : ∀ b, (impl_PermText.items b c).length ≤ 3 * c.length := by
 induction c with
 | nil => intro b; simp [impl_PermText.items]
 | cons x t ih =>
  intro b
  obtain ⟨m, hm, rfl⟩ := h x List.mem_cons_self
  have := ih (fun y hy => h y (List.mem_cons_of_mem _ hy)) false
  have := dec_len hm
  simp only [impl_PermText.items, List.length_cons, List.length_append, Int.toNat_natCast]
  omega

theorem Low.mem {c : List Int} (h : Low c) : ∀ x, x ∈ c → ∃ m : Nat, m < 100 ∧ x = m := by
 intro x hx
 obtain ⟨j, hj, e⟩ := List.mem_iff_getElem.1 hx
 obtain ⟨m, hm, e2⟩ := h.2 j hj
 rw [rd_get hj] at e2
 exact ⟨m, hm, by rw [← e, e2]⟩

theorem row_len {c : List Int} (h : Low c) : (impl_PermText.row c).length ≤ 37 := by
 unfold impl_PermText.row
 split
 ·simp
 ·have := items_len h.mem true
  have := h.1
  rw [List.length_append]; simp; omega

theorem txt_len {cs : List (List Int)} (h : ∀ c, c ∈ cs → Low c) : (impl_PermText.txt cs).length ≤ 37 * cs.length := by
 induction cs with
 | nil => simp [impl_PermText.txt]
 | cons c t ih =>
  have := ih fun x hx => h x (List.mem_cons_of_mem _ hx)
  have := row_len (h c List.mem_cons_self)
  simp only [impl_PermText.txt, List.length_append, List.length_cons]
  omega

theorem txt_small {cs : List (List Int)} (h : ∀ c, c ∈ cs → Low c) (hl : cs.length ≤ 12) : impl_PermText.small cs = true := by
 have := txt_len h
 unfold impl_PermText.small
 simp only [Bool.and_eq_true, List.all_eq_true, decide_eq_true_eq]
 refine ⟨fun c hc => ⟨by have := (h c hc).1; omega, fun x hx => ?_⟩, by omega, by omega⟩
 obtain ⟨m, hm, rfl⟩ := (h c hc).mem x hx
 omega

theorem items_one {c : List Int} {j m : Nat} (hj : j < c.length) (hm : rd c (j : Int) = m) (b : Bool) : impl_PermText.items b (c.drop j) = (if b then 40 else 44) :: (Lib.decDigits m ++ impl_PermText.items false (c.drop (j + 1))) := by
 rw [impl_PermText.items_drop hj, hm, Int.toNat_natCast]

theorem rowTail_ev {cs : List (List Int)} {ok : Bool} {i : Nat} (hi : i < cs.length) (hl : cs.length ≤ 12) (hc : Low (rd_L1 cs (i : Int))) {R : ByteArray} :
 ∀ d j (a : List UInt8), 1 ≤ j → j + d = (rd_L1 cs (i : Int)).length → a.length ≤ 5000 + 3 * j → Ev (fun k => spec_PermText.l0 k (bA (a ++ impl_PermText.items false ((rd_L1 cs (i : Int)).drop j) ++ [41])) cs ok ((i + 1 : Nat) : Int)) R → Ev (fun k => spec_PermText.l1 k (bA a) cs ok (i : Int) (j : Int)) R := by
 intro d
 induction d with
 | zero =>
  intro j a h1 hj ha k
  have := hc.1
  refine Ev.step (fun k => by rw [spec_PermText.l1]) ?_
  rw [List.drop_of_length_le (by omega)] at k
  refine Ev.pos (by omega) (Ev.pos (by omega) (Ev.neg (by omega) (Ev.pos (by rw [bA_size]; omega) ?_)))
  rw [wrap_nat (by omega), show (⟨#[41]⟩ : ByteArray) = bA [41] from rfl, bA_append]
  simpa [impl_PermText.items] using k
 | succ d ih =>
  intro j a h1 hj ha k
  have := hc.1
  have hj' : j < (rd_L1 cs (i : Int)).length := by omega
  obtain ⟨m, hm, e⟩ := hc.2 j hj'
  have dl := dec_len hm
  rw [items_one hj' e false] at k
  refine Ev.step (fun k => by rw [spec_PermText.l1]) ?_
  rw [e, show (⟨#[44]⟩ : ByteArray) = bA [44] from rfl, bA_append]
  refine Ev.pos (by omega) (Ev.pos (by omega) (Ev.pos (by omega) (Ev.pos (by omega) (Ev.pos (by rw [bA_size]; omega) (Ev.pos (by omega) (Ev.bind1 (l6Dec_ev hm) ?_))))))
  rw [bA_append, bA_size, bA_size, wrap_nat (by omega)]
  refine Ev.pos (by simp only [List.length_append, List.length_cons, List.length_nil]; omega) (ih (j + 1) _ (by omega) (by omega) (by simp only [List.length_append, List.length_cons, List.length_nil]; omega) ?_)
  simpa using k

theorem permText_ev {cs : List (List Int)} (ok : Bool) (hl : cs.length ≤ 12) (h : ∀ c, c ∈ cs → Low c) : Ev (fun k => spec_PermText.l0 k (bA []) cs ok ((0 : Nat) : Int)) (if ok = true then (if impl_PermText.txt cs = [] then (⟨#[40, 41]⟩ : ByteArray) else bA (impl_PermText.txt cs)) else bA (impl_PermText.txt cs)) := by
 have loop : ∀ d i (a : List UInt8), i + d = cs.length → a.length ≤ 37 * i → a ++ impl_PermText.txt (cs.drop i) = impl_PermText.txt cs → Ev (fun k => spec_PermText.l0 k (bA a) cs ok (i : Int)) (if ok = true then (if impl_PermText.txt cs = [] then (⟨#[40, 41]⟩ : ByteArray) else bA (impl_PermText.txt cs)) else bA (impl_PermText.txt cs)) := by
  intro d
  induction d with
  | zero =>
   intro i a hi ha e
   rw [List.drop_of_length_le (by omega)] at e
   have e : a = impl_PermText.txt cs := by simpa [impl_PermText.txt] using e
   subst e
   refine Ev.step (f := fun _ => some (if ok = true then (if impl_PermText.txt cs = [] then (⟨#[40, 41]⟩ : ByteArray) else bA (impl_PermText.txt cs)) else bA (impl_PermText.txt cs))) (fun k => ?_) (Ev.now _)
   rw [spec_PermText.l0, if_neg (by omega), bA_toList]
   cases ok with
   | true =>
    rw [if_pos rfl, if_pos rfl]
    by_cases c : impl_PermText.txt cs = []
    ·rw [if_pos c, if_pos c]
    ·rw [if_neg c, if_neg c]
   | false => rw [if_neg (by simp), if_neg (by simp)]
  | succ d ih =>
   intro i a hi ha e
   have hi' : i < cs.length := by omega
   have er : rd_L1 cs (i : Int) = cs[i] := by unfold rd_L1; simp [List.getD_eq_getElem?_getD, hi']
   have hc : Low (rd_L1 cs (i : Int)) := by rw [er]; exact h _ (List.getElem_mem hi')
   have rl := row_len hc
   rw [impl_PermText.txt_drop hi', ← List.append_assoc] at e
   refine Ev.step (fun k => by rw [spec_PermText.l0]) ?_
   refine Ev.pos (by omega) (Ev.pos (by omega) ?_)
   by_cases c : ((rd_L1 cs (i : Int)).length : Int) < 2
   ·have r0 : impl_PermText.row (rd_L1 cs (i : Int)) = [] := by unfold impl_PermText.row; rw [if_pos (by omega)]
    rw [r0, List.append_nil] at e
    refine Ev.pos c ?_
    rw [wrap_nat (by omega)]
    exact ih (i + 1) a (by omega) (by omega) e
   ·have next := ih (i + 1) _ (by omega) (by rw [List.length_append]; omega) e
    refine Ev.neg c (Ev.pos (by rw [bA_size]; omega) ?_)
    have h0 : 0 < (rd_L1 cs (i : Int)).length := by omega
    obtain ⟨m, hm, em⟩ := hc.2 0 h0
    have dl := dec_len hm
    have hx := hc.1
    have rr : impl_PermText.row (rd_L1 cs (i : Int)) = 40 :: (Lib.decDigits m ++ impl_PermText.items false ((rd_L1 cs (i : Int)).drop 1)) ++ [41] := by
     unfold impl_PermText.row
     rw [if_neg (by omega)]
     have := items_one h0 em true
     rw [List.drop_zero] at this
     rw [this]; rfl
    rw [rr] at next
    rw [show (⟨#[40]⟩ : ByteArray) = bA [40] from rfl, bA_append]
    refine Ev.step (fun k => by rw [spec_PermText.l1]) ?_
    rw [show (0 : Int) = ((0 : Nat) : Int) from rfl, em]
    refine Ev.pos (by omega) (Ev.pos (by omega) (Ev.pos (by omega) (Ev.neg (by omega) (Ev.pos (by omega) (Ev.bind1 (l6Dec_ev hm) ?_)))))
    rw [bA_append, bA_size, bA_size, wrap_nat (by omega)]
    refine Ev.pos (by simp only [List.length_append, List.length_cons, List.length_nil]; omega) (rowTail_ev hi' hl hc ((rd_L1 cs (i : Int)).length - 1) 1 _ (by omega) (by omega) (by simp only [List.length_append, List.length_cons, List.length_nil]; omega) ?_)
    simpa using next
 exact loop cs.length 0 [] (by omega) (by simp) (by simp)

theorem cycsL_low {n : Nat} {f : Nat → Nat} (hn : n ≤ 12) (hb : Bij n f) : ∀ c, c ∈ cycsL n f → Low c := by
 intro c hc
 obtain ⟨m, hm, _, rfl⟩ := cycsL_mem hc
 have p := (per_spec hb hm).2.1
 refine ⟨by rw [cyc_len]; omega, fun j hj => ?_⟩
 rw [cyc_len] at hj
 exact ⟨it f j m, by have := it_lt hb j hm; omega, cyc_rd hj⟩

theorem text_both {a : List Int} (ha : a.length ≤ 1048576) : ∃ r, Ev (fun k => spec_PermText.f k a) r ∧ Ev (fun k => impl_PermText.f k a) r := by
 by_cases v : impl_PermValid.validB a = true
 ·obtain ⟨f, hf⟩ := (valid_iff a).1 v
  have h12 := hf.2.1
  have hb := hf.2.2.1
  have lc : (cycsL a.length f).length ≤ a.length := cycsL_len
  have low := cycsL_low h12 hb
  refine ⟨if impl_PermText.txt (cycsL a.length f) = [] then (⟨#[40, 41]⟩ : ByteArray) else bA (impl_PermText.txt (cycsL a.length f)), ?_, ?_⟩
  ·unfold spec_PermText.f
   exact Ev.bind1 (specPermCycles_pm hf) (permText_ev true (by show (cycsL a.length f).length ≤ 12; omega) low)
  ·unfold impl_PermText.f
   refine Ev.bind1 (implValid_ev a) (Ev.pos v (Ev.bind1 (a := cycsL a.length f) ?_ (Ev.pos (txt_small low (by omega)) ?_)))
   ·have := implCycles_ev (n := a.length) (f := f) (by omega) hb
    rw [← hf.2.2.2] at this
    exact this
   ·by_cases c : impl_PermText.txt (cycsL a.length f) = []
    ·rw [show (if impl_PermText.txt (cycsL a.length f) = [] then (⟨#[40, 41]⟩ : ByteArray) else bA (impl_PermText.txt (cycsL a.length f))) = ⟨#[40, 41]⟩ from if_pos c]
     exact Ev.pos c (Ev.now _)
    ·rw [show (if impl_PermText.txt (cycsL a.length f) = [] then (⟨#[40, 41]⟩ : ByteArray) else bA (impl_PermText.txt (cycsL a.length f))) = bA (impl_PermText.txt (cycsL a.length f)) from if_neg c]
     exact Ev.neg c (Ev.now _)
 ·refine ⟨(⟨#[]⟩ : ByteArray), ?_, ?_⟩
  ·unfold spec_PermText.f
   have e2 : Ev (fun k => spec_PermCycles.f k a) ([], false) := by
    unfold spec_PermCycles.f
    exact Ev.bind1 (specValid_ev a (by omega)) (Ev.neg v (Ev.now _))
   have := permText_ev (cs := []) false (by simp) (by simp)
   exact Ev.bind1 e2 this
  ·unfold impl_PermText.f
   exact Ev.bind1 (implValid_ev a) (Ev.neg v (Ev.now _))

/-- The reference and the program write the same text. -/
theorem FnExactPermText : laws_FnExactPermText.Pure := by
 intro l hl1 hl2 hw
 refine Ev.rounds ?_
 unfold laws_FnExactPermText.f
 by_cases c : (l.length : Int) > 1048576
 ·exact Ev.pos c (Ev.now _)
 have hl : l.length ≤ 1048576 := by omega
 obtain ⟨r, es, ei⟩ := text_both hl
 have eq := eqIntS_ev (a := l) (b := l) (by omega)
 rw [decide_eq_true rfl] at eq
 exact Ev.neg c (Ev.bind1 (toIntS_ev hl) (Ev.bind1 es (Ev.bind1 (toIntS_ev hl) (Ev.bind1 ei (Ev.pos rfl (Ev.bind1 (toIntS_ev hl) (Ev.bind1 eq (Ev.pos rfl (Ev.now _)))))))))
end Go.Proofs.YtieaplnngmgkeaaDoor.R
namespace Go.Proofs.YtieaplnngmgkeaaDoor.Pure
theorem FnExactPermText : Go.Proofs.YtieaplnngmgkeaaDoor.F.laws_FnExactPermText.Pure := Go.Proofs.YtieaplnngmgkeaaDoor.R.FnExactPermText
end Go.Proofs.YtieaplnngmgkeaaDoor.Pure
