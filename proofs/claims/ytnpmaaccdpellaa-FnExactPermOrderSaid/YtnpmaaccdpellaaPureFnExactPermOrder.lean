/- The reference and the program agree on the order of each list. -/
import Derived.Test.YtnpmaaccdpellaaF1
import Derived.Test.YtnpmaaccdpellaaF2
import Derived.Test.YtnpmaaccdpellaaF3
import Derived.Test.YtnpmaaccdpellaaF8
import Derived.Test.YtnpmaaccdpellaaF9
import Derived.Test.YtnpmaaccdpellaaF17
import Derived.Test.YtnpmaaccdpellaaF18
import Derived.Test.YtnpmaaccdpellaaF19
set_option linter.unusedVariables false
set_option linter.unusedSimpArgs false
namespace Go.Proofs.Ytnpmaaccdpellaa.Sm
open List
/-- f permutes the numbers below n. -/
def Bij (n : Nat) (f : Nat → Nat) : Prop := (∀ i, i < n → f i < n) ∧ (∀ i j, i < n → j < n → f i = f j → i = j)

/-- the list of a permutation -/
def pm (n : Nat) (f : Nat → Nat) : List Int := (List.range n).map (fun i => (f i : Int))

theorem pm_length (n : Nat) (f : Nat → Nat) : (pm n f).length = n := by simp [pm]

theorem pm_getD (n : Nat) (f : Nat → Nat) (i : Nat) (h : i < n) : (pm n f).getD i 0 = (f i : Int) := by
  simp [pm, List.getD, h]

theorem pm_ext {n : Nat} {f g : Nat → Nat} : pm n f = pm n g ↔ ∀ i, i < n → f i = g i := by
  constructor
  · intro h i hi
    have := pm_getD n f i hi
    rw [h, pm_getD n g i hi] at this
    omega
  · intro h
    unfold pm
    apply List.map_congr_left
    intro i hi
    rw [h i (by simpa using hi)]

theorem eq_pm (n : Nat) (f : Nat → Nat) (l : List Int) (hl : l.length = n) (h : ∀ i, i < n → l.getD i 0 = (f i : Int)) : l = pm n f := by
  apply List.ext_getElem
  · rw [hl, pm_length]
  · intro i h1 h2
    have := h i (by omega)
    have e := pm_getD n f i (by omega)
    simp only [List.getD_eq_getElem?_getD, List.getElem?_eq_getElem h1, Option.getD_some] at this
    simp only [List.getD_eq_getElem?_getD, List.getElem?_eq_getElem h2, Option.getD_some] at e
    rw [this, e]

/-- the permutation without its last point -/
def byp (n : Nat) (f : Nat → Nat) (i : Nat) : Nat := if f i = n then f n else f i

theorem byp_bij {n : Nat} {f : Nat → Nat} (h : Bij (n + 1) f) : Bij n (byp n f) := by
  obtain ⟨h1, h2⟩ := h
  constructor
  · intro i hi
    unfold byp
    have a := h1 i (by omega)
    have b := h1 n (by omega)
    split
    · rename_i e
      have : f n ≠ n := fun e2 => by have := h2 i n (by omega) (by omega) (by omega); omega
      omega
    · omega
  · intro i j hi hj e
    unfold byp at e
    by_cases e1 : f i = n <;> by_cases e2 : f j = n
    · exact h2 i j (by omega) (by omega) (by omega)
    · rw [if_pos e1, if_neg e2] at e
      have := h2 n j (by omega) (by omega) e; omega
    · rw [if_neg e1, if_pos e2] at e
      have := h2 i n (by omega) (by omega) e; omega
    · rw [if_neg e1, if_neg e2] at e
      exact h2 i j (by omega) (by omega) e

theorem surj {n : Nat} {f : Nat → Nat} (h : Bij n f) : ∀ y, y < n → ∃ x, x < n ∧ f x = y := by
  induction n generalizing f with
  | zero => intro y hy; omega
  | succ n ih =>
    have hb := ih (byp_bij h)
    obtain ⟨h1, h2⟩ := h
    intro y hy
    by_cases e : y = n
    · subst e
      by_cases e1 : f y = y
      · exact ⟨y, by omega, e1⟩
      · have b := h1 y (by omega)
        obtain ⟨x, hx, e2⟩ := hb (f y) (by omega)
        unfold byp at e2
        split at e2
        · rename_i e3; exact ⟨x, by omega, e3⟩
        · have := h2 x y (by omega) (by omega) e2; omega
    · obtain ⟨x, hx, e2⟩ := hb y (by omega)
      unfold byp at e2
      split at e2
      · exact ⟨n, by omega, e2⟩
      · exact ⟨x, by omega, e2⟩

/-- the inverse below n -/
def finv (n : Nat) (f : Nat → Nat) (y : Nat) : Nat := ((List.range n).find? (fun i => f i == y)).getD 0

theorem finv_spec {n : Nat} {f : Nat → Nat} (h : Bij n f) {y : Nat} (hy : y < n) : finv n f y < n ∧ f (finv n f y) = y := by
  obtain ⟨x, hx, e⟩ := surj h y hy
  unfold finv
  cases hf : (List.range n).find? (fun i => f i == y) with
  | none =>
    rw [List.find?_eq_none] at hf
    exact absurd (hf x (by simpa using hx)) (by simp [e])
  | some z =>
    have a := List.mem_of_find?_eq_some hf
    have b := List.find?_some hf
    simp at a b
    exact ⟨by simpa using a, by simpa using b⟩

theorem finv_left {n : Nat} {f : Nat → Nat} (h : Bij n f) {x : Nat} (hx : x < n) : finv n f (f x) = x := by
  have := finv_spec h (h.1 x hx)
  exact h.2 _ _ this.1 hx this.2

theorem finv_bij {n : Nat} {f : Nat → Nat} (h : Bij n f) : Bij n (finv n f) := by
  refine ⟨fun i hi => (finv_spec h hi).1, fun i j hi hj e => ?_⟩
  have a := (finv_spec h hi).2
  have b := (finv_spec h hj).2
  rw [e] at a
  omega

/-- f done m times -/
def it (f : Nat → Nat) : Nat → Nat → Nat
  | 0, x => x
  | m + 1, x => f (it f m x)

theorem it_add (f : Nat → Nat) (a b x : Nat) : it f (a + b) x = it f a (it f b x) := by
  induction a with
  | zero => simp [it]
  | succ a ih => rw [Nat.succ_add]; simp [it, ih]

theorem it_lt {n : Nat} {f : Nat → Nat} (h : Bij n f) (m : Nat) {x : Nat} (hx : x < n) : it f m x < n := by
  induction m with
  | zero => exact hx
  | succ m ih => exact h.1 _ ih

theorem it_inj {n : Nat} {f : Nat → Nat} (h : Bij n f) (m : Nat) {x y : Nat} (hx : x < n) (hy : y < n) (e : it f m x = it f m y) : x = y := by
  induction m with
  | zero => exact e
  | succ m ih => exact ih (h.2 _ _ (it_lt h m hx) (it_lt h m hy) e)

theorem it_bij {n : Nat} {f : Nat → Nat} (h : Bij n f) (m : Nat) : Bij n (it f m) :=
  ⟨fun _ hi => it_lt h m hi, fun _ _ hi hj e => it_inj h m hi hj e⟩

/-- pigeonhole: more than n numbers below n: two are equal -/
theorem pigeon (n : Nat) (g : Nat → Nat) (h : ∀ i, i ≤ n → g i < n) : ∃ i j, i < j ∧ j ≤ n ∧ g i = g j := by
  induction n generalizing g with
  | zero => exact absurd (h 0 (by omega)) (by omega)
  | succ n ih =>
    by_cases c : ∃ i, i < n + 1 ∧ g i = g (n + 1)
    · obtain ⟨i, hi, e⟩ := c; exact ⟨i, n + 1, hi, by omega, e⟩
    · have c' : ∀ i, i < n + 1 → g i ≠ g (n + 1) := fun i hi e => c ⟨i, hi, e⟩
      obtain ⟨i, j, hij, hj, e⟩ := ih (fun i => if g i = n then g (n + 1) else g i) (fun i hi => by
        have a := h i (by omega)
        have b := h (n + 1) (by omega)
        have d := c' i (by omega)
        show (if g i = n then g (n + 1) else g i) < n
        split <;> omega)
      refine ⟨i, j, hij, by omega, ?_⟩
      have di := c' i (by omega)
      have dj := c' j (by omega)
      by_cases e1 : g i = n <;> by_cases e2 : g j = n
      · omega
      · rw [if_pos e1, if_neg e2] at e; omega
      · rw [if_neg e1, if_pos e2] at e; omega
      · rw [if_neg e1, if_neg e2] at e; exact e

theorem it_back {n : Nat} {f : Nat → Nat} (h : Bij n f) {x : Nat} (hx : x < n) : ∃ m, 0 < m ∧ m ≤ n ∧ it f m x = x := by
  obtain ⟨i, j, hij, hj, e⟩ := pigeon n (fun m => it f m x) (fun m _ => it_lt h m hx)
  refine ⟨j - i, by omega, by omega, ?_⟩
  have : it f (i + (j - i)) x = it f i (it f (j - i) x) := it_add ..
  rw [show i + (j - i) = j by omega] at this
  exact (it_inj h i hx (it_lt h _ hx) (e.trans this)).symm

/-- the least positive m with p m, below a bound; else 0 -/
def least (p : Nat → Bool) (n : Nat) : Nat := ((List.range n).find? (fun m => p (m + 1))).elim 0 (· + 1)

theorem find_range_some {n : Nat} {p : Nat → Bool} {m : Nat} (h : (List.range n).find? p = some m) : m < n ∧ p m = true ∧ ∀ k, k < m → p k = false := by
  induction n generalizing m with
  | zero => simp at h
  | succ n ih =>
    rw [List.range_succ, List.find?_append] at h
    cases e : (List.range n).find? p with
    | some z =>
      rw [e] at h; simp at h; subst h
      have := ih e
      exact ⟨by omega, this.2⟩
    | none =>
      rw [e] at h
      simp at h
      obtain ⟨h1, rfl⟩ := h
      refine ⟨by omega, h1, fun k hk => ?_⟩
      rw [List.find?_eq_none] at e
      simpa using e k (by simpa using hk)

theorem least_spec {p : Nat → Bool} {n m : Nat} (hm : 0 < m) (hn : m ≤ n) (h : p m = true) :
    0 < least p n ∧ least p n ≤ m ∧ p (least p n) = true ∧ ∀ k, 0 < k → k < least p n → p k = false := by
  unfold least
  cases e : (List.range n).find? (fun m => p (m + 1)) with
  | none =>
    rw [List.find?_eq_none] at e
    have := e (m - 1) (by simp; omega)
    rw [show m - 1 + 1 = m by omega] at this
    exact absurd h this
  | some z =>
    obtain ⟨h1, h2, h3⟩ := find_range_some e
    simp only [Option.elim_some]
    refine ⟨by omega, ?_, h2, fun k hk hk2 => ?_⟩
    · apply Nat.le_of_not_lt
      intro hlt
      have := h3 (m - 1) (by omega)
      rw [show m - 1 + 1 = m by omega, h] at this
      cases this
    · have := h3 (k - 1) (by omega)
      rwa [show k - 1 + 1 = k by omega] at this

/-- how long the cycle of x is -/
def per (n : Nat) (f : Nat → Nat) (x : Nat) : Nat := least (fun m => it f m x == x) n

theorem per_spec {n : Nat} {f : Nat → Nat} (h : Bij n f) {x : Nat} (hx : x < n) :
    0 < per n f x ∧ per n f x ≤ n ∧ it f (per n f x) x = x ∧ ∀ k, 0 < k → k < per n f x → it f k x ≠ x := by
  obtain ⟨m, h1, h2, h3⟩ := it_back h hx
  obtain ⟨a, b, c, d⟩ := least_spec (p := fun m => it f m x == x) (n := n) h1 h2 (by simpa using h3)
  refine ⟨a, by unfold per; omega, ?_, fun k hk hk2 => by simpa using d k hk hk2⟩
  have := eq_of_beq c
  exact this

theorem it_mul_per {n : Nat} {f : Nat → Nat} (h : Bij n f) {x : Nat} (hx : x < n) (q : Nat) : it f (per n f x * q) x = x := by
  induction q with
  | zero => rfl
  | succ q ih => rw [Nat.mul_succ, it_add, (per_spec h hx).2.2.1, ih]

theorem it_mod_per {n : Nat} {f : Nat → Nat} (h : Bij n f) {x : Nat} (hx : x < n) (m : Nat) : it f m x = it f (m % per n f x) x := by
  conv => lhs; rw [← Nat.mod_add_div m (per n f x)]
  rw [it_add, it_mul_per h hx]

theorem it_eq_iff {n : Nat} {f : Nat → Nat} (h : Bij n f) {x : Nat} (hx : x < n) (m : Nat) : it f m x = x ↔ per n f x ∣ m := by
  obtain ⟨a, b, c, d⟩ := per_spec h hx
  constructor
  · intro e
    rw [it_mod_per h hx] at e
    apply Nat.dvd_of_mod_eq_zero
    apply Nat.eq_zero_of_not_pos
    intro hp
    exact d _ hp (Nat.mod_lt _ a) e
  · rintro ⟨q, rfl⟩
    exact it_mul_per h hx q

def fact : Nat → Nat
  | 0 => 1
  | n + 1 => (n + 1) * fact n

theorem fact_pos (n : Nat) : 0 < fact n := by
  induction n with
  | zero => exact Nat.one_pos
  | succ n ih => exact Nat.mul_pos (by omega) ih

theorem dvd_fact {m n : Nat} (h0 : 0 < m) (h : m ≤ n) : m ∣ fact n := by
  induction n with
  | zero => omega
  | succ n ih =>
    by_cases c : m = n + 1
    · rw [c]; exact Nat.dvd_mul_right ..
    · exact Nat.dvd_trans (ih (by omega)) (Nat.dvd_mul_left ..)

/-- does f done m times move nothing? -/
def still (n : Nat) (f : Nat → Nat) (m : Nat) : Bool := (List.range n).all fun x => it f m x == x

theorem still_iff (n : Nat) (f : Nat → Nat) (m : Nat) : still n f m = true ↔ ∀ x, x < n → it f m x = x := by
  unfold still; simp

theorem still_per {n : Nat} {f : Nat → Nat} (h : Bij n f) (m : Nat) : still n f m = true ↔ ∀ x, x < n → per n f x ∣ m := by
  rw [still_iff]
  exact ⟨fun a x hx => (it_eq_iff h hx m).1 (a x hx), fun a x hx => (it_eq_iff h hx m).2 (a x hx)⟩

/-- how often until nothing is moved -/
def ord (n : Nat) (f : Nat → Nat) : Nat := least (still n f) (fact n)

theorem ord_spec {n : Nat} {f : Nat → Nat} (h : Bij n f) : 0 < ord n f ∧ ord n f ≤ fact n ∧ (∀ x, x < n → it f (ord n f) x = x) ∧ ∀ k, 0 < k → k < ord n f → still n f k = false := by
  have hs : still n f (fact n) = true := (still_per h _).2 fun x hx => by
    have p := per_spec h hx
    exact dvd_fact p.1 p.2.1
  obtain ⟨a, b, c, d⟩ := least_spec (p := still n f) (fact_pos n) (Nat.le_refl _) hs
  exact ⟨a, b, (still_iff n f _).1 c, d⟩

/-- a renaming from one map to another one -/
structure Iso (n : Nat) (t s t' s' g : Nat → Nat) : Prop where
  bij : Bij n g
  et : ∀ x, x < n → t' (g x) = g (t x)
  es : ∀ x, x < n → s' (g x) = g (s x)

theorem Iso.symm {n : Nat} {t s t' s' g : Nat → Nat} (i : Iso n t s t' s' g) (ht : Bij n t) (hs : Bij n s) : Iso n t' s' t s (finv n g) := by
  refine ⟨finv_bij i.bij, fun x hx => ?_, fun x hx => ?_⟩
  · obtain ⟨a, ha, rfl⟩ := surj i.bij x hx
    rw [finv_left i.bij ha, i.et a ha, finv_left i.bij (ht.1 a ha)]
  · obtain ⟨a, ha, rfl⟩ := surj i.bij x hx
    rw [finv_left i.bij ha, i.es a ha, finv_left i.bij (hs.1 a ha)]
end Go.Proofs.Ytnpmaaccdpellaa.Sm
namespace Go.Proofs.Ytnpmaaccdpellaa.R
open Go.RowKit Go.Proofs.YtnpmaaccdpellaaW.PrintWords Go.Proofs.YtnpmaaccdpellaaW.PrintLast Go.Proofs.YtnpmaaccdpellaaW.PrintMore Go.Proofs.Ytnpmaaccdpellaa.F Go.Proofs.Ytnpmaaccdpellaa.Sm
theorem Ev.pos {α : Type} {c : Prop} [Decidable c] {A B : Nat → Option α} {r : α} (h : c) (k : Ev A r) : Ev (fun n => if c then A n else B n) r := by
  simp only [if_pos h]; exact k

theorem Ev.neg {α : Type} {c : Prop} [Decidable c] {A B : Nat → Option α} {r : α} (h : ¬ c) (k : Ev B r) : Ev (fun n => if c then A n else B n) r := by
  simp only [if_neg h]; exact k

theorem Ev.bind1 {α β : Type} {g : Nat → Option α} {f : Nat → α → Option β} {a : α} {r : β} (h : Ev g a) (k : Ev (fun n => f n a) r) : Ev (fun n => (g n).bind (f n)) r := Ev.bind h k

theorem wrap_nat {i : Nat} (h : i < 9223372036854775807) : wrap64 ((i : Int) + 1) = ((i + 1 : Nat) : Int) := by unfold wrap64; omega

theorem wrap_in {n : Int} (h1 : -9223372036854775808 ≤ n) (h2 : n ≤ 9223372036854775807) : wrap64 n = n := by unfold wrap64; omega

theorem rd_get {l : List Int} {i : Nat} (h : i < l.length) : rd l (i : Int) = l[i] := by
  unfold rd; simp [h]

theorem rd_pm {n : Nat} {f : Nat → Nat} {i : Nat} (h : i < n) : rd (pm n f) (i : Int) = (f i : Int) := by
  unfold rd; exact pm_getD n f i h

theorem toIntS_loop (l : List Int) (hl : l.length ≤ 1048576) : ∀ d i (s : List Int), i + d = l.length → s.length = l.length → Ev (fun k => laws_toIntS.l0 k l s (i : Int)) (s.take i ++ l.drop i) := by
  intro d
  induction d with
  | zero =>
    intro i s hi hs
    refine Ev.step (f := fun _ => some s) (fun k => by rw [laws_toIntS.l0, if_neg (by omega)]) ?_
    rw [List.take_of_length_le (by omega), List.drop_of_length_le (by omega), List.append_nil]
    exact Ev.now _
  | succ d ih =>
    intro i s hi hs
    refine Ev.step (f := fun k => laws_toIntS.l0 k l (s.set i (rd l i)) ((i + 1 : Nat) : Int)) (fun k => by
      rw [laws_toIntS.l0, if_pos (by omega), if_pos (by omega), if_pos (by omega), wrap_nat (by omega)]; rfl) ?_
    have := ih (i + 1) (s.set i (rd l i)) (by omega) (by simp [hs])
    have e : (s.set i (rd l i)).take (i + 1) ++ l.drop (i + 1) = s.take i ++ l.drop i := by
      rw [List.drop_eq_getElem_cons (show i < l.length by omega), rd_get (by omega)]
      rw [List.take_succ_eq_append_getElem (by simp; omega)]
      rw [List.take_set_of_le (Nat.le_refl i)]
      simp
    rw [e] at this
    exact this

theorem toIntS_ev {l : List Int} (hl : l.length ≤ 1048576) : Ev (fun k => laws_toIntS.f k l) l := by
  unfold laws_toIntS.f
  refine Ev.pos (by omega) (Ev.pos (by omega) ?_)
  have := toIntS_loop l hl l.length 0 (List.replicate l.length 0) (by omega) (by simp)
  simpa using this

theorem eqIntS_loop (a b : List Int) (hl : a.length = b.length) (hb : a.length ≤ 1048576) : ∀ d i, i + d = a.length → Ev (fun k => laws_eqIntS.l0 k a b (i : Int)) (decide (a.drop i = b.drop i)) := by
  intro d
  induction d with
  | zero =>
    intro i hi
    refine Ev.step (f := fun _ => some true) (fun k => by rw [laws_eqIntS.l0, if_neg (by omega)]) ?_
    rw [List.drop_of_length_le (by omega), List.drop_of_length_le (by omega)]
    exact Ev.now _
  | succ d ih =>
    intro i hi
    have ha : i < a.length := by omega
    have hb' : i < b.length := by omega
    rw [List.drop_eq_getElem_cons ha, List.drop_eq_getElem_cons hb']
    by_cases c : a[i] = b[i]
    · refine Ev.step (f := fun k => laws_eqIntS.l0 k a b ((i + 1 : Nat) : Int)) (fun k => by
        rw [laws_eqIntS.l0, if_pos (by omega), if_pos (by omega), if_pos (by omega), rd_get ha, rd_get hb', if_pos c, wrap_nat (by omega)]) ?_
      have e : decide (a[i] :: a.drop (i + 1) = b[i] :: b.drop (i + 1)) = decide (a.drop (i + 1) = b.drop (i + 1)) := by
        simp only [List.cons.injEq, c, true_and]
      rw [e]
      exact ih (i + 1) (by omega)
    · refine Ev.step (f := fun k => some false) (fun k => by
        rw [laws_eqIntS.l0, if_pos (by omega), if_pos (by omega), if_pos (by omega), rd_get ha, rd_get hb', if_neg c]) ?_
      have : decide (a[i] :: a.drop (i + 1) = b[i] :: b.drop (i + 1)) = false := by
        simp only [List.cons.injEq, c, false_and, decide_false]
      rw [this]
      exact Ev.now _

theorem eqIntS_ev {a b : List Int} (hb : a.length ≤ 1048576) : Ev (fun k => laws_eqIntS.f k a b) (decide (a = b)) := by
  unfold laws_eqIntS.f
  by_cases c : a.length = b.length
  · refine Ev.pos (by omega) ?_
    exact eqIntS_loop a b c hb a.length 0 (by omega)
  · have : decide (a = b) = false := by simp; intro e; exact c (by rw [e])
    rw [this]
    exact Ev.neg (by omega) (Ev.now _)

/-- a list that is a permutation -/
def IsPerm (n : Nat) (l : List Int) (f : Nat → Nat) : Prop := 1 ≤ n ∧ n ≤ 12 ∧ Bij n f ∧ l = pm n f

theorem valid_iff (l : List Int) : impl_PermValid.validB l = true ↔ ∃ f, IsPerm l.length l f := by
  unfold impl_PermValid.validB
  simp only [Bool.and_eq_true, decide_eq_true_eq, List.all_eq_true, List.mem_range]
  constructor
  · rintro ⟨⟨h1, h2⟩, h3⟩
    have h3' : ∀ i, i < l.length → 0 ≤ rd l i ∧ rd l i < l.length ∧ ∀ j, j < i → rd l j ≠ rd l i := by
      intro i hi
      have := h3 i hi
      unfold impl_PermValid.okAt at this
      simp only [Bool.and_eq_true, decide_eq_true_eq, Bool.not_eq_true', List.contains_eq_mem, decide_eq_false_iff_not] at this
      refine ⟨this.1.1, this.1.2, fun j hj e => this.2 ?_⟩
      rw [← e, rd_get (show j < l.length by omega)]
      rw [List.mem_iff_getElem]
      exact ⟨j, by simp; omega, by simp⟩
    refine ⟨fun i => (rd l i).toNat, h1, h2, ⟨fun i hi => by have := h3' i hi; show (rd l i).toNat < _; omega, fun i j hi hj e => ?_⟩, ?_⟩
    · have a := h3' i hi
      have b := h3' j hj
      have e' : (rd l i).toNat = (rd l j).toNat := e
      rcases Nat.lt_trichotomy i j with c | c | c
      · exact (b.2.2 i c (by omega)).elim
      · exact c
      · exact (a.2.2 j c (by omega)).elim
    · refine eq_pm _ _ _ rfl fun i hi => ?_
      have := h3' i hi
      show l.getD i 0 = (((rd l i).toNat : Nat) : Int)
      have e : l.getD i 0 = rd l i := rfl
      omega
  · rintro ⟨f, h1, h2, hf, e⟩
    refine ⟨⟨h1, h2⟩, fun i hi => ?_⟩
    have r : ∀ j, j < l.length → rd l j = (f j : Int) := fun j hj => by
      have := rd_pm (n := l.length) (f := f) hj
      rwa [← e] at this
    unfold impl_PermValid.okAt
    simp only [Bool.and_eq_true, decide_eq_true_eq, Bool.not_eq_true', List.contains_eq_mem, decide_eq_false_iff_not]
    refine ⟨⟨by rw [r i hi]; omega, by rw [r i hi]; have := hf.1 i hi; omega⟩, fun hm => ?_⟩
    rw [List.mem_iff_getElem] at hm
    obtain ⟨j, hj, ej⟩ := hm
    have hj' : j < i := by simp at hj; omega
    have : l[j]'(by omega) = rd l i := by simpa using ej
    rw [← rd_get (show j < l.length by omega), r i hi, r j (by omega)] at this
    have := hf.2 j i (by omega) hi (by omega)
    omega

theorem implValid_ev (l : List Int) : Ev (fun _ => impl_PermValid.f l) (impl_PermValid.validB l) := Ev.now _

/-- the reference's look: up to i all is well -/
theorem specValid_ev (l : List Int) (hl : l.length ≤ 4294967296) : Ev (fun k => spec_PermValid.f k l) (impl_PermValid.validB l) := by
  have e0 : ∀ (a b c : Int), spec_l6In.f a b c = some (decide (b ≤ a) && decide (a ≤ c)) := by
    intro a b c
    unfold spec_l6In.f
    by_cases h : b ≤ a
    · rw [if_pos h]; simp [h]
    · rw [if_neg h]; simp [h]
  -- the inner loop
  have inner : ∀ d i j, i < l.length → j + d = i → (∀ m, m < j → rd l m ≠ rd l i) → ∀ r, ((∀ m, m < i → rd l m ≠ rd l i) → Ev (fun k => spec_PermValid.l0 k l ((i + 1 : Nat) : Int)) r) → ((∃ m, m < i ∧ rd l m = rd l i) → r = false) → Ev (fun k => spec_PermValid.l1 k l (i : Int) (j : Int)) r := by
    intro d
    induction d with
    | zero =>
      intro i j hi hj hm r h1 h2
      refine Ev.step (f := fun k => spec_PermValid.l0 k l ((i + 1 : Nat) : Int)) (fun k => by rw [spec_PermValid.l1, if_neg (by omega), wrap_nat (by omega)]) ?_
      exact h1 (fun m hmi => hm m (by omega))
    | succ d ih =>
      intro i j hi hj hm r h1 h2
      by_cases c : rd l (j : Int) = rd l (i : Int)
      · have := h2 ⟨j, by omega, c⟩
        subst this
        refine Ev.step (f := fun k => some false) (fun k => by
          rw [spec_PermValid.l1, if_pos (by omega), if_pos (by omega), if_pos (by omega), if_pos (by omega), if_pos (by omega), if_pos c]) (Ev.now _)
      · refine Ev.step (f := fun k => spec_PermValid.l1 k l (i : Int) ((j + 1 : Nat) : Int)) (fun k => by
          rw [spec_PermValid.l1, if_pos (by omega), if_pos (by omega), if_pos (by omega), if_pos (by omega), if_pos (by omega), if_neg c, wrap_nat (by omega)]) ?_
        refine ih i (j + 1) hi (by omega) (fun m hm' => ?_) r h1 h2
        by_cases e : m = j
        · subst e; exact c
        · exact hm m (by omega)
  have outer : ∀ d i, i + d = l.length → (∀ m, m < i → impl_PermValid.okAt l m = true) → Ev (fun k => spec_PermValid.l0 k l (i : Int)) (impl_PermValid.validB l) := by
    intro d
    induction d with
    | zero =>
      intro i hi hm
      have e : impl_PermValid.validB l = (decide ((1 : Int) ≤ (l.length : Int)) && decide ((l.length : Int) ≤ 12)) := by
        unfold impl_PermValid.validB
        have : (List.range l.length).all (impl_PermValid.okAt l) = true := by
          rw [List.all_eq_true]; intro m hm'; exact hm m (by have := List.mem_range.1 hm'; omega)
        rw [this]
        rw [Bool.and_true]
        congr 1
        · simp; omega
        · simp; omega
      refine Ev.step (f := fun _ => some (impl_PermValid.validB l)) (fun k => by rw [spec_PermValid.l0, if_neg (by omega), e0, e]; rfl) (Ev.now _)
    | succ d ih =>
      intro i hi hm
      have hil : i < l.length := by omega
      have fail : impl_PermValid.okAt l i = false → impl_PermValid.validB l = false := impl_PermValid.valid_fail l i hil
      have ew : wrap64 ((l.length : Int) - 1) = (l.length : Int) - 1 := wrap_in (by omega) (by omega)
      by_cases c : 0 ≤ rd l (i : Int) ∧ rd l (i : Int) ≤ (l.length : Int) - 1
      · refine Ev.step (f := fun k => spec_PermValid.l1 k l (i : Int) ((0 : Nat) : Int)) (fun k => by
          rw [spec_PermValid.l0, if_pos (by omega), if_pos (by omega), e0, ew]
          simp only [Option.bind_some]
          rw [if_pos (by simp [c.1, c.2])]; rfl) ?_
        refine inner i i 0 hil (by omega) (fun m hm' => absurd hm' (by omega)) _ (fun hd => ?_) (fun hd => ?_)
        · refine ih (i + 1) (by omega) (fun m hm' => ?_)
          by_cases e : m = i
          · subst e
            unfold impl_PermValid.okAt
            simp only [Bool.and_eq_true, decide_eq_true_eq, Bool.not_eq_true', List.contains_eq_mem, decide_eq_false_iff_not]
            refine ⟨⟨c.1, by omega⟩, fun hx => ?_⟩
            rw [List.mem_iff_getElem] at hx
            obtain ⟨j, hj, ej⟩ := hx
            have hj' : j < m := by simp at hj; omega
            have : l[j]'(by omega) = rd l m := by simpa using ej
            rw [← rd_get (show j < l.length by omega)] at this
            exact hd j hj' this
          · exact hm m (by omega)
        · obtain ⟨m, hmi, em⟩ := hd
          apply fail
          unfold impl_PermValid.okAt
          have : (l.take i).contains (rd l i) = true := by
            rw [List.contains_eq_mem, decide_eq_true_eq, ← em, rd_get (show m < l.length by omega), List.mem_iff_getElem]
            exact ⟨m, by simp; omega, by simp⟩
          simp only [this, Bool.not_true, Bool.and_false]
      · have : impl_PermValid.validB l = false := by
          apply fail
          unfold impl_PermValid.okAt
          by_cases c1 : 0 ≤ rd l (i : Int)
          · have : ¬ rd l (i : Int) < l.length := by omega
            simp [this]
          · simp [c1]
        rw [this]
        refine Ev.step (f := fun k => some false) (fun k => by
          rw [spec_PermValid.l0, if_pos (by omega), if_pos (by omega), e0, ew]
          simp only [Option.bind_some]
          rw [if_neg]
          simp only [Bool.and_eq_true, decide_eq_true_eq]
          exact c) (Ev.now _)
  unfold spec_PermValid.f
  exact outer l.length 0 (by omega) (fun m hm => absurd hm (by omega))

theorem rd_set {s : List Int} {a b : Nat} {v : Int} (h : a < s.length) : rd (s.set a v) (b : Int) = if a = b then v else rd s (b : Int) := by
  unfold rd
  simp only [Int.toNat_natCast, List.getD_eq_getElem?_getD, List.getElem?_set]
  by_cases e : a = b
  · subst e; simp [h]
  · simp [e]

theorem eq_pm' {n : Nat} {f : Nat → Nat} {l : List Int} (hl : l.length = n) (h : ∀ i, i < n → rd l (i : Int) = (f i : Int)) : l = pm n f :=
  eq_pm n f l hl fun i hi => by have := h i hi; unfold rd at this; simpa using this

theorem equal_loop (a b : List Int) (hl : a.length = b.length) (hb : a.length ≤ 4294967296) : ∀ d i, i + d = a.length → Ev (fun k => slices_Equal_int_int.l0 k a b (a.length : Int) (i : Int)) (decide (a.drop i = b.drop i)) := by
  intro d
  induction d with
  | zero =>
    intro i hi
    refine Ev.step (f := fun _ => some true) (fun k => by rw [slices_Equal_int_int.l0, if_neg (by omega)]) ?_
    rw [List.drop_of_length_le (by omega), List.drop_of_length_le (by omega)]
    exact Ev.now _
  | succ d ih =>
    intro i hi
    have ha : i < a.length := by omega
    have hb' : i < b.length := by omega
    rw [List.drop_eq_getElem_cons ha, List.drop_eq_getElem_cons hb']
    by_cases c : a[i] = b[i]
    · refine Ev.step (f := fun k => slices_Equal_int_int.l0 k a b (a.length : Int) ((i + 1 : Nat) : Int)) (fun k => by
        rw [slices_Equal_int_int.l0, if_pos (by omega), if_pos (by omega), if_pos (by omega), if_pos (by omega), rd_get ha, rd_get hb', if_pos c, wrap_nat (by omega)]) ?_
      have e : decide (a[i] :: a.drop (i + 1) = b[i] :: b.drop (i + 1)) = decide (a.drop (i + 1) = b.drop (i + 1)) := by
        simp only [List.cons.injEq, c, true_and]
      rw [e]
      exact ih (i + 1) (by omega)
    · refine Ev.step (f := fun k => some false) (fun k => by
        rw [slices_Equal_int_int.l0, if_pos (by omega), if_pos (by omega), if_pos (by omega), if_pos (by omega), rd_get ha, rd_get hb', if_neg c]) ?_
      have : decide (a[i] :: a.drop (i + 1) = b[i] :: b.drop (i + 1)) = false := by
        simp only [List.cons.injEq, c, false_and, decide_false]
      rw [this]
      exact Ev.now _

theorem equal_ev {a b : List Int} (hb : a.length ≤ 4294967296) : Ev (fun k => slices_Equal_int_int.f k a b) (decide (a = b)) := by
  unfold slices_Equal_int_int.f
  by_cases c : a.length = b.length
  · refine Ev.pos (by omega) ?_
    exact equal_loop a b c hb a.length 0 (by omega)
  · have : decide (a = b) = false := by simp; intro e; exact c (by rw [e])
    rw [this]
    exact Ev.neg (by omega) (Ev.now _)

theorem still_ev {n : Nat} (hn : n ≤ 1000) : Ev (fun k => impl_still.f k (n : Int)) (pm n fun i => i) := by
  have loop : ∀ d i (s : List Int), i + d = n → s.length = n → (∀ j, j < i → rd s (j : Int) = (j : Int)) → Ev (fun k => impl_still.l0 k s (n : Int) (i : Int)) (pm n fun i => i) := by
    intro d
    induction d with
    | zero =>
      intro i s hi hs h
      refine Ev.step (f := fun _ => some s) (fun k => by rw [impl_still.l0, if_neg (by omega)]) ?_
      rw [eq_pm' (f := fun i => i) hs (fun j hj => h j (by omega))]
      exact Ev.now _
    | succ d ih =>
      intro i s hi hs h
      refine Ev.step (f := fun k => impl_still.l0 k (s.set i (i : Int)) (n : Int) ((i + 1 : Nat) : Int)) (fun k => by
        rw [impl_still.l0, if_pos (by omega), if_pos (by omega), if_pos (by omega), wrap_nat (by omega)]; rfl) ?_
      refine ih (i + 1) _ (by omega) (by simp [hs]) (fun j hj => ?_)
      rw [rd_set (by omega)]
      by_cases e : i = j
      · rw [if_pos e, e]
      · rw [if_neg e]; exact h j (by omega)
  unfold impl_still.f
  refine Ev.pos (by omega) (Ev.pos (by omega) ?_)
  have := loop n 0 (List.replicate n 0) (by omega) (by simp) (fun j hj => absurd hj (by omega))
  simpa using this

theorem mul_ev {n : Nat} {f g : Nat → Nat} (hn : n ≤ 1000) (hf : ∀ i, i < n → f i < n) : Ev (fun k => impl_mul.f k (pm n f) (pm n g)) (pm n fun i => g (f i)) := by
  have loop : ∀ d i (s : List Int), i + d = n → s.length = n → (∀ j, j < i → rd s (j : Int) = (g (f j) : Int)) → Ev (fun k => impl_mul.l0 k (pm n g) s (pm n f) (n : Int) (i : Int)) (pm n fun i => g (f i)) := by
    intro d
    induction d with
    | zero =>
      intro i s hi hs h
      refine Ev.step (f := fun _ => some s) (fun k => by rw [impl_mul.l0, if_neg (by omega)]) ?_
      rw [eq_pm' (f := fun i => g (f i)) hs (fun j hj => h j (by omega))]
      exact Ev.now _
    | succ d ih =>
      intro i s hi hs h
      have hfi := hf i (by omega)
      refine Ev.step (f := fun k => impl_mul.l0 k (pm n g) (s.set i (g (f i) : Int)) (pm n f) (n : Int) ((i + 1 : Nat) : Int)) (fun k => by
        rw [impl_mul.l0, if_pos (by omega), if_pos (by omega), if_pos (by rw [pm_length]; omega), rd_pm (by omega), if_pos (by omega), if_pos (by rw [pm_length]; omega), if_pos (by omega), wrap_nat (by omega), rd_pm hfi]; rfl) ?_
      refine ih (i + 1) _ (by omega) (by simp [hs]) (fun j hj => ?_)
      rw [rd_set (by omega)]
      by_cases e : i = j
      · rw [if_pos e, e]
      · rw [if_neg e]; exact h j (by omega)
  unfold impl_mul.f
  simp only [pm_length]
  refine Ev.pos (by omega) (Ev.pos (by omega) ?_)
  have := loop n 0 (List.replicate n 0) (by omega) (by simp) (fun j hj => absurd hj (by omega))
  simpa using this

theorem l1Mul_ev {n : Nat} {f g : Nat → Nat} (hn : n ≤ 1000) (hf : ∀ i, i < n → f i < n) : Ev (fun k => spec_l1Mul.f k (pm n f) (pm n g)) (pm n fun i => g (f i)) := by
  have loop : ∀ d i, i + d = n → Ev (fun k => spec_l1Mul.l0 k (pm n f) (pm n g) (pm i fun i => g (f i)) (i : Int)) (pm n fun i => g (f i)) := by
    intro d
    induction d with
    | zero =>
      intro i hi
      have e : i = n := by omega
      subst e
      exact Ev.step (f := fun _ => some (pm i fun i => g (f i))) (fun k => by rw [spec_l1Mul.l0, if_neg (by rw [pm_length]; omega)]) (Ev.now _)
    | succ d ih =>
      intro i hi
      have hfi := hf i (by omega)
      refine Ev.step (f := fun k => spec_l1Mul.l0 k (pm n f) (pm n g) (pm (i + 1) fun i => g (f i)) ((i + 1 : Nat) : Int)) (fun k => by
        rw [spec_l1Mul.l0, if_pos (by rw [pm_length]; omega), if_pos (by omega), rd_pm (by omega), if_pos (by omega), if_pos (by rw [pm_length]; omega), if_pos (by rw [pm_length]; omega), wrap_nat (by omega), rd_pm hfi]
        simp [pm, List.range_succ]) (ih (i + 1) (by omega))
  unfold spec_l1Mul.f
  exact loop n 0 (by omega)

theorem isPerm_rd {n : Nat} {a : List Int} {f : Nat → Nat} (h : IsPerm n a f) : ∀ i, i < n → (rd a (i : Int)).toNat = f i := by
  intro i hi; rw [h.2.2.2, rd_pm hi]; simp

theorem isPerm_len {n : Nat} {a : List Int} {f : Nat → Nat} (h : IsPerm n a f) : a.length = n := by rw [h.2.2.2, pm_length]

theorem isPerm_valid {n : Nat} {a : List Int} {f : Nat → Nat} (h : IsPerm n a f) : impl_PermValid.validB a = true :=
  (valid_iff a).2 ⟨f, by rw [isPerm_len h]; exact h⟩

theorem fact_small : ∀ n, n < 13 → fact n ≤ 479001600 := by decide

theorem still_pm {n : Nat} {f : Nat → Nat} {m : Nat} : (pm n (it f m) = pm n fun i => i) ↔ Sm.still n f m = true := by
  rw [pm_ext, still_iff]

noncomputable def orderR (a : List Int) : Int := if impl_PermValid.validB a = true then (ord a.length (fun i => (rd a (i : Int)).toNat) : Int) else -1

theorem it_congr {n : Nat} {f g : Nat → Nat} (hf : Bij n f) (h : ∀ i, i < n → f i = g i) (m : Nat) {x : Nat} (hx : x < n) : it f m x = it g m x := by
  induction m with
  | zero => rfl
  | succ m ih => show f (it f m x) = g (it g m x); rw [← ih, h _ (it_lt hf m hx)]

theorem ord_congr {n : Nat} {f g : Nat → Nat} (hf : Bij n f) (h : ∀ i, i < n → f i = g i) : ord n f = ord n g := by
  unfold ord least
  congr 1
  have : (fun m => Sm.still n f (m + 1)) = fun m => Sm.still n g (m + 1) := by
    funext m
    rw [Bool.eq_iff_iff, still_iff, still_iff]
    exact ⟨fun e x hx => by rw [← it_congr hf h _ hx]; exact e x hx, fun e x hx => by rw [it_congr hf h _ hx]; exact e x hx⟩
  rw [this]

theorem orderR_perm {n : Nat} {a : List Int} {f : Nat → Nat} (h : IsPerm n a f) : orderR a = (ord n f : Int) := by
  unfold orderR
  rw [if_pos (isPerm_valid h), isPerm_len h]
  rw [ord_congr h.2.2.1 (fun i hi => (isPerm_rd h i hi).symm)]

theorem moves_ev {n : Nat} {g : Nat → Nat} (hn : n ≤ 1000) : Ev (fun k => spec_l1Moves.f k (pm n g)) (!decide (pm n g = pm n fun i => i)) := by
  have loop : ∀ d i, i + d = n → (∀ j, j < i → g j = j) → Ev (fun k => spec_l1Moves.l0 k (pm n g) (i : Int)) (!decide (pm n g = pm n fun i => i)) := by
    intro d
    induction d with
    | zero =>
      intro i hi h
      have : pm n g = pm n fun i => i := pm_ext.2 fun j hj => h j (by omega)
      refine Ev.step (f := fun _ => some false) (fun k => by rw [spec_l1Moves.l0, if_neg (by rw [pm_length]; omega)]) ?_
      simp only [this, decide_true, Bool.not_true]
      exact Ev.now _
    | succ d ih =>
      intro i hi h
      by_cases c : g i = i
      · refine Ev.step (f := fun k => spec_l1Moves.l0 k (pm n g) ((i + 1 : Nat) : Int)) (fun k => by
          rw [spec_l1Moves.l0, if_pos (by rw [pm_length]; omega), if_pos (by omega), rd_pm (by omega), if_pos (by omega), wrap_nat (by omega)]) ?_
        refine ih (i + 1) (by omega) fun j hj => ?_
        by_cases e : j = i
        · rw [e, c]
        · exact h j (by omega)
      · have : ¬ pm n g = pm n fun i => i := fun e => c (pm_ext.1 e i (by omega))
        refine Ev.step (f := fun _ => some true) (fun k => by
          rw [spec_l1Moves.l0, if_pos (by rw [pm_length]; omega), if_pos (by omega), rd_pm (by omega), if_neg (by omega)]) ?_
        simp only [this, decide_false, Bool.not_false]
        exact Ev.now _
  unfold spec_l1Moves.f
  exact loop n 0 (by omega) (fun j hj => absurd hj (by omega))

theorem specOrder_ev {a : List Int} (ha : a.length ≤ 4294967296) : Ev (fun k => spec_PermOrder.f k a) (orderR a) := by
  unfold spec_PermOrder.f
  refine Ev.bind1 (specValid_ev a ha) ?_
  by_cases c : impl_PermValid.validB a = true
  · obtain ⟨f, hf⟩ := (valid_iff a).1 c
    obtain ⟨n, en⟩ : ∃ n, n = a.length := ⟨_, rfl⟩
    rw [← en] at hf
    have h12 := hf.2.1
    rw [orderR_perm hf]
    refine Ev.pos c ?_
    have o := ord_spec hf.2.2.1
    have fs := fact_small n (by omega)
    have loop : ∀ d m, 0 < m → m + d = ord n f → Ev (fun k => spec_PermOrder.l0 k (pm n f) (m : Int) (pm n (it f m))) (ord n f : Int) := by
      intro d
      induction d with
      | zero =>
        intro m hm hd
        have em : m = ord n f := by omega
        have hs : Sm.still n f m = true := by rw [em]; exact (still_iff n f _).2 o.2.2.1
        refine Ev.step (fun k => by rw [spec_PermOrder.l0]) ?_
        refine Ev.bind1 (moves_ev (by omega)) (Ev.neg (by simp [still_pm.2 hs]) ?_)
        rw [em]; exact Ev.now _
      | succ d ih =>
        intro m hm hd
        have hs : Sm.still n f m = false := o.2.2.2 m hm (by omega)
        have hp : ¬ pm n (it f m) = pm n fun i => i := fun e => by rw [still_pm.1 e] at hs; cases hs
        refine Ev.step (fun k => by rw [spec_PermOrder.l0]) ?_
        refine Ev.bind1 (moves_ev (by omega)) (Ev.pos (by simp [hp]) (Ev.bind1 (l1Mul_ev (by omega) (it_bij hf.2.2.1 m).1) ?_))
        rw [wrap_nat (by omega)]
        exact ih (m + 1) (by omega) (by omega)
    have := loop (ord n f - 1) 1 (by omega) (by omega)
    rw [hf.2.2.2]
    exact this
  · unfold orderR
    rw [if_neg c]
    exact Ev.neg c (Ev.now _)

theorem clone_ev {a : List Int} (h : a.length ≤ 1048576) : Ev (fun _ => slices_Clone_int_int.f a) a := by
  unfold slices_Clone_int_int.f
  exact Ev.pos (by omega) (Ev.now _)

theorem implOrder_ev (a : List Int) : Ev (fun k => impl_PermOrder.f k a) (orderR a) := by
  unfold impl_PermOrder.f
  refine Ev.bind1 (implValid_ev a) ?_
  by_cases c : impl_PermValid.validB a = true
  · obtain ⟨f, hf⟩ := (valid_iff a).1 c
    obtain ⟨n, en⟩ : ∃ n, n = a.length := ⟨_, rfl⟩
    rw [← en] at hf
    have h12 := hf.2.1
    rw [orderR_perm hf]
    refine Ev.pos c (Ev.bind1 (clone_ev (by omega)) ?_)
    have o := ord_spec hf.2.2.1
    have fs := fact_small n (by omega)
    have loop : ∀ d m, 0 < m → m + d = ord n f → Ev (fun k => impl_PermOrder.l0 k (pm n f) (pm n (it f m)) (m : Int)) (ord n f : Int) := by
      intro d
      induction d with
      | zero =>
        intro m hm hd
        have em : m = ord n f := by omega
        have hs : Sm.still n f m = true := by rw [em]; exact (still_iff n f _).2 o.2.2.1
        refine Ev.step (fun k => by rw [impl_PermOrder.l0]) ?_
        rw [pm_length]
        refine Ev.bind1 (still_ev (by omega)) (Ev.bind1 (equal_ev (by rw [pm_length]; omega)) (Ev.pos (by simp [still_pm.2 hs]) ?_))
        rw [em]; exact Ev.now _
      | succ d ih =>
        intro m hm hd
        have hs : Sm.still n f m = false := o.2.2.2 m hm (by omega)
        have hp : ¬ pm n (it f m) = pm n fun i => i := fun e => by rw [still_pm.1 e] at hs; cases hs
        refine Ev.step (fun k => by rw [impl_PermOrder.l0]) ?_
        rw [pm_length]
        refine Ev.bind1 (still_ev (by omega)) (Ev.bind1 (equal_ev (by rw [pm_length]; omega)) (Ev.neg (by simp [hp]) (Ev.bind1 (mul_ev (by omega) (it_bij hf.2.2.1 m).1) ?_)))
        rw [wrap_nat (by omega)]
        exact ih (m + 1) (by omega) (by omega)
    have := loop (ord n f - 1) 1 (by omega) (by omega)
    rw [hf.2.2.2]
    exact this
  · unfold orderR
    rw [if_neg c]
    exact Ev.neg c (Ev.now _)

/-- The reference and the program agree on the order of each list. -/
theorem FnExactPermOrder : laws_FnExactPermOrder.Pure := by
  intro l hl1 hl2 hw
  refine Ev.rounds ?_
  unfold laws_FnExactPermOrder.f
  by_cases c : (l.length : Int) > 1048576
  · exact Ev.pos c (Ev.now _)
  · have hl : l.length ≤ 1048576 := by omega
    refine Ev.neg c (Ev.bind1 (toIntS_ev hl) (Ev.bind1 (specOrder_ev (by omega)) (Ev.bind1 (toIntS_ev hl) (Ev.bind1 (implOrder_ev l) (Ev.pos rfl (Ev.bind1 (toIntS_ev hl) (Ev.bind1 (eqIntS_ev hl) (Ev.pos (by simp) (Ev.now _)))))))))
end Go.Proofs.Ytnpmaaccdpellaa.R
namespace Go.Proofs.Ytnpmaaccdpellaa.Pure
theorem FnExactPermOrder : Go.Proofs.Ytnpmaaccdpellaa.F.laws_FnExactPermOrder.Pure := Go.Proofs.Ytnpmaaccdpellaa.R.FnExactPermOrder
end Go.Proofs.Ytnpmaaccdpellaa.Pure
