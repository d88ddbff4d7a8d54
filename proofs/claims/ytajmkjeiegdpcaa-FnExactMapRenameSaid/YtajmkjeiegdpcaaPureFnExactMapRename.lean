/- The reference and the program agree on a map renamed. -/
import Derived.Test.YtajmkjeiegdpcaaF0
import Derived.Test.YtajmkjeiegdpcaaF1
import Derived.Test.YtajmkjeiegdpcaaF14
import Derived.Test.YtajmkjeiegdpcaaF15
import Derived.Test.YtajmkjeiegdpcaaF16
import Derived.Test.YtajmkjeiegdpcaaF19
import Derived.Test.YtajmkjeiegdpcaaF20
import Derived.Test.YtajmkjeiegdpcaaF21
import Derived.Test.YtajmkjeiegdpcaaF22
import Derived.Test.YtajmkjeiegdpcaaF23
import Derived.Test.YtajmkjeiegdpcaaF24
import Derived.Test.YtajmkjeiegdpcaaF25
import Derived.Test.YtajmkjeiegdpcaaF26
import Derived.Test.YtajmkjeiegdpcaaF27
import Derived.Test.YtajmkjeiegdpcaaF28
import Derived.Test.YtajmkjeiegdpcaaF29
import Derived.Test.YtajmkjeiegdpcaaF3
import Derived.Test.YtajmkjeiegdpcaaF4
import Derived.Test.YtajmkjeiegdpcaaF6
import Derived.Test.YtajmkjeiegdpcaaF7
import Derived.Test.YtajmkjeiegdpcaaF8
import Derived.Test.YtajmkjeiegdpcaaMFnExactMapRename
set_option linter.unusedVariables false
set_option linter.unusedSimpArgs false
namespace Go.Proofs.Ytajmkjeiegdpcaa.Sm
open List
/-- f permutes the numbers below n. -/
def Bij (n : Nat) (f : Nat → Nat) : Prop := (∀ i, i < n → f i < n) ∧ (∀ i j, i < n → j < n → f i = f j → i = j)

/-- the list of a permutation -/
def pm (n : Nat) (f : Nat → Nat) : List Int := (List.range n).map (fun i => (f i : Int))

theorem pm_length (n : Nat) (f : Nat → Nat) : (pm n f).length = n := by simp [pm]

theorem pm_getD (n : Nat) (f : Nat → Nat) (i : Nat) (h : i < n) : (pm n f).getD i 0 = (f i : Int) := by
  simp [pm, List.getD, h]

theorem pm_ext {n : Nat} {f g : Nat → Nat} : pm n f = pm n g ↔ ∀ i, i < n → f i = g i := by
  constructor
  · intro h i hi
    have := pm_getD n f i hi
    rw [h, pm_getD n g i hi] at this
    omega
  · intro h
    unfold pm
    apply List.map_congr_left
    intro i hi
    rw [h i (by simpa using hi)]

theorem eq_pm (n : Nat) (f : Nat → Nat) (l : List Int) (hl : l.length = n) (h : ∀ i, i < n → l.getD i 0 = (f i : Int)) : l = pm n f := by
  apply List.ext_getElem
  · rw [hl, pm_length]
  · intro i h1 h2
    have := h i (by omega)
    have e := pm_getD n f i (by omega)
    simp only [List.getD_eq_getElem?_getD, List.getElem?_eq_getElem h1, Option.getD_some] at this
    simp only [List.getD_eq_getElem?_getD, List.getElem?_eq_getElem h2, Option.getD_some] at e
    rw [this, e]

/-- the permutation without its last point -/
def byp (n : Nat) (f : Nat → Nat) (i : Nat) : Nat := if f i = n then f n else f i

theorem byp_bij {n : Nat} {f : Nat → Nat} (h : Bij (n + 1) f) : Bij n (byp n f) := by
  obtain ⟨h1, h2⟩ := h
  constructor
  · intro i hi
    unfold byp
    have a := h1 i (by omega)
    have b := h1 n (by omega)
    split
    · rename_i e
      have : f n ≠ n := fun e2 => by have := h2 i n (by omega) (by omega) (by omega); omega
      omega
    · omega
  · intro i j hi hj e
    unfold byp at e
    by_cases e1 : f i = n <;> by_cases e2 : f j = n
    · exact h2 i j (by omega) (by omega) (by omega)
    · rw [if_pos e1, if_neg e2] at e
      have := h2 n j (by omega) (by omega) e; omega
    · rw [if_neg e1, if_pos e2] at e
      have := h2 i n (by omega) (by omega) e; omega
    · rw [if_neg e1, if_neg e2] at e
      exact h2 i j (by omega) (by omega) e

theorem surj {n : Nat} {f : Nat → Nat} (h : Bij n f) : ∀ y, y < n → ∃ x, x < n ∧ f x = y := by
  induction n generalizing f with
  | zero => intro y hy; omega
  | succ n ih =>
    have hb := ih (byp_bij h)
    obtain ⟨h1, h2⟩ := h
    intro y hy
    by_cases e : y = n
    · subst e
      by_cases e1 : f y = y
      · exact ⟨y, by omega, e1⟩
      · have b := h1 y (by omega)
        obtain ⟨x, hx, e2⟩ := hb (f y) (by omega)
        unfold byp at e2
        split at e2
        · rename_i e3; exact ⟨x, by omega, e3⟩
        · have := h2 x y (by omega) (by omega) e2; omega
    · obtain ⟨x, hx, e2⟩ := hb y (by omega)
      unfold byp at e2
      split at e2
      · exact ⟨n, by omega, e2⟩
      · exact ⟨x, by omega, e2⟩

/-- the inverse below n -/
def finv (n : Nat) (f : Nat → Nat) (y : Nat) : Nat := ((List.range n).find? (fun i => f i == y)).getD 0

theorem finv_spec {n : Nat} {f : Nat → Nat} (h : Bij n f) {y : Nat} (hy : y < n) : finv n f y < n ∧ f (finv n f y) = y := by
  obtain ⟨x, hx, e⟩ := surj h y hy
  unfold finv
  cases hf : (List.range n).find? (fun i => f i == y) with
  | none =>
    rw [List.find?_eq_none] at hf
    exact absurd (hf x (by simpa using hx)) (by simp [e])
  | some z =>
    have a := List.mem_of_find?_eq_some hf
    have b := List.find?_some hf
    simp at a b
    exact ⟨by simpa using a, by simpa using b⟩

theorem finv_bij {n : Nat} {f : Nat → Nat} (h : Bij n f) : Bij n (finv n f) := by
  refine ⟨fun i hi => (finv_spec h hi).1, fun i j hi hj e => ?_⟩
  have a := (finv_spec h hi).2
  have b := (finv_spec h hj).2
  rw [e] at a
  omega

theorem comp_bij {n : Nat} {f g : Nat → Nat} (h : Bij n f) (k : Bij n g) : Bij n (fun i => g (f i)) :=
  ⟨fun i hi => k.1 _ (h.1 i hi), fun i j hi hj e => h.2 i j hi hj (k.2 _ _ (h.1 i hi) (h.1 j hj) e)⟩

/-- f done m times -/
def it (f : Nat → Nat) : Nat → Nat → Nat
  | 0, x => x
  | m + 1, x => f (it f m x)

theorem it_add (f : Nat → Nat) (a b x : Nat) : it f (a + b) x = it f a (it f b x) := by
  induction a with
  | zero => simp [it]
  | succ a ih => rw [Nat.succ_add]; simp [it, ih]

theorem it_succ' (f : Nat → Nat) (a x : Nat) : it f (a + 1) x = it f a (f x) := it_add f a 1 x

theorem it_lt {n : Nat} {f : Nat → Nat} (h : Bij n f) (m : Nat) {x : Nat} (hx : x < n) : it f m x < n := by
  induction m with
  | zero => exact hx
  | succ m ih => exact h.1 _ ih

theorem it_inj {n : Nat} {f : Nat → Nat} (h : Bij n f) (m : Nat) {x y : Nat} (hx : x < n) (hy : y < n) (e : it f m x = it f m y) : x = y := by
  induction m with
  | zero => exact e
  | succ m ih => exact ih (h.2 _ _ (it_lt h m hx) (it_lt h m hy) e)

/-- pigeonhole: more than n numbers below n: two are equal -/
theorem pigeon (n : Nat) (g : Nat → Nat) (h : ∀ i, i ≤ n → g i < n) : ∃ i j, i < j ∧ j ≤ n ∧ g i = g j := by
  induction n generalizing g with
  | zero => exact absurd (h 0 (by omega)) (by omega)
  | succ n ih =>
    by_cases c : ∃ i, i < n + 1 ∧ g i = g (n + 1)
    · obtain ⟨i, hi, e⟩ := c; exact ⟨i, n + 1, hi, by omega, e⟩
    · have c' : ∀ i, i < n + 1 → g i ≠ g (n + 1) := fun i hi e => c ⟨i, hi, e⟩
      obtain ⟨i, j, hij, hj, e⟩ := ih (fun i => if g i = n then g (n + 1) else g i) (fun i hi => by
        have a := h i (by omega)
        have b := h (n + 1) (by omega)
        have d := c' i (by omega)
        show (if g i = n then g (n + 1) else g i) < n
        split <;> omega)
      refine ⟨i, j, hij, by omega, ?_⟩
      have di := c' i (by omega)
      have dj := c' j (by omega)
      by_cases e1 : g i = n <;> by_cases e2 : g j = n
      · omega
      · rw [if_pos e1, if_neg e2] at e; omega
      · rw [if_neg e1, if_pos e2] at e; omega
      · rw [if_neg e1, if_neg e2] at e; exact e

theorem it_back {n : Nat} {f : Nat → Nat} (h : Bij n f) {x : Nat} (hx : x < n) : ∃ m, 0 < m ∧ m ≤ n ∧ it f m x = x := by
  obtain ⟨i, j, hij, hj, e⟩ := pigeon n (fun m => it f m x) (fun m _ => it_lt h m hx)
  refine ⟨j - i, by omega, by omega, ?_⟩
  have : it f (i + (j - i)) x = it f i (it f (j - i) x) := it_add ..
  rw [show i + (j - i) = j by omega] at this
  exact (it_inj h i hx (it_lt h _ hx) (e.trans this)).symm

/-- the least positive m with p m, below a bound; else 0 -/
def least (p : Nat → Bool) (n : Nat) : Nat := ((List.range n).find? (fun m => p (m + 1))).elim 0 (· + 1)

theorem find_range_some {n : Nat} {p : Nat → Bool} {m : Nat} (h : (List.range n).find? p = some m) : m < n ∧ p m = true ∧ ∀ k, k < m → p k = false := by
  induction n generalizing m with
  | zero => simp at h
  | succ n ih =>
    rw [List.range_succ, List.find?_append] at h
    cases e : (List.range n).find? p with
    | some z =>
      rw [e] at h; simp at h; subst h
      have := ih e
      exact ⟨by omega, this.2⟩
    | none =>
      rw [e] at h
      simp at h
      obtain ⟨h1, rfl⟩ := h
      refine ⟨by omega, h1, fun k hk => ?_⟩
      rw [List.find?_eq_none] at e
      simpa using e k (by simpa using hk)

theorem least_spec {p : Nat → Bool} {n m : Nat} (hm : 0 < m) (hn : m ≤ n) (h : p m = true) :
    0 < least p n ∧ least p n ≤ m ∧ p (least p n) = true ∧ ∀ k, 0 < k → k < least p n → p k = false := by
  unfold least
  cases e : (List.range n).find? (fun m => p (m + 1)) with
  | none =>
    rw [List.find?_eq_none] at e
    have := e (m - 1) (by simp; omega)
    rw [show m - 1 + 1 = m by omega] at this
    exact absurd h this
  | some z =>
    obtain ⟨h1, h2, h3⟩ := find_range_some e
    simp only [Option.elim_some]
    refine ⟨by omega, ?_, h2, fun k hk hk2 => ?_⟩
    · apply Nat.le_of_not_lt
      intro hlt
      have := h3 (m - 1) (by omega)
      rw [show m - 1 + 1 = m by omega, h] at this
      cases this
    · have := h3 (k - 1) (by omega)
      rwa [show k - 1 + 1 = k by omega] at this

/-- how long the cycle of x is -/
def per (n : Nat) (f : Nat → Nat) (x : Nat) : Nat := least (fun m => it f m x == x) n

theorem per_spec {n : Nat} {f : Nat → Nat} (h : Bij n f) {x : Nat} (hx : x < n) :
    0 < per n f x ∧ per n f x ≤ n ∧ it f (per n f x) x = x ∧ ∀ k, 0 < k → k < per n f x → it f k x ≠ x := by
  obtain ⟨m, h1, h2, h3⟩ := it_back h hx
  obtain ⟨a, b, c, d⟩ := least_spec (p := fun m => it f m x == x) (n := n) h1 h2 (by simpa using h3)
  refine ⟨a, by unfold per; omega, ?_, fun k hk hk2 => by simpa using d k hk hk2⟩
  have := eq_of_beq c
  exact this

/-- no coloring that both keep tells i from j -/
def conn (n : Nat) (a b : Nat → Nat) (i j : Nat) : Prop := ∀ c : Nat → Nat, (∀ x, x < n → c (a x) = c x ∧ c (b x) = c x) → c i = c j

theorem conn_refl (n : Nat) (a b : Nat → Nat) (i : Nat) : conn n a b i i := fun _ _ => rfl

theorem conn_symm {n : Nat} {a b : Nat → Nat} {i j : Nat} (h : conn n a b i j) : conn n a b j i := fun c hc => (h c hc).symm

theorem conn_trans {n : Nat} {a b : Nat → Nat} {i j k : Nat} (h : conn n a b i j) (h' : conn n a b j k) : conn n a b i k := fun c hc => (h c hc).trans (h' c hc)

theorem conn_a {n : Nat} {a b : Nat → Nat} {i : Nat} (h : i < n) : conn n a b i (a i) := fun _ hc => (hc i h).1.symm

theorem conn_b {n : Nat} {a b : Nat → Nat} {i : Nat} (h : i < n) : conn n a b i (b i) := fun _ hc => (hc i h).2.symm

/-- o tells the least point that each point leads to -/
structure IsOrb (n : Nat) (a b o : Nat → Nat) : Prop where
  keep : ∀ x, x < n → o (a x) = o x ∧ o (b x) = o x
  le : ∀ x, x < n → o x ≤ x
  conn : ∀ x, x < n → conn n a b x (o x)

theorem IsOrb.lt {n : Nat} {a b o : Nat → Nat} (h : IsOrb n a b o) {x : Nat} (hx : x < n) : o x < n := Nat.lt_of_le_of_lt (h.le x hx) hx

theorem IsOrb.unique {n : Nat} {a b o o' : Nat → Nat} (h : IsOrb n a b o) (h' : IsOrb n a b o') : ∀ x, x < n → o x = o' x := by
  have key : ∀ o o', IsOrb n a b o → IsOrb n a b o' → ∀ x, x < n → o' x ≤ o x := by
    intro o o' h h' x hx
    have e := h.conn x hx o' h'.keep
    rw [e]
    exact h'.le _ (h.lt hx)
  intro x hx
  exact Nat.le_antisymm (key _ _ h' h x hx) (key _ _ h h' x hx)

theorem IsOrb.idem {n : Nat} {a b o : Nat → Nat} (h : IsOrb n a b o) {x : Nat} (hx : x < n) : o (o x) = o x :=
  (h.conn x hx o h.keep).symm

/-- a set that one permutation maps into itself: it doesn't map others into it -/
theorem closed_back {n : Nat} {f : Nat → Nat} (h : Bij n f) (S : Nat → Prop) (hS : ∀ x, x < n → S x → S (f x)) {x : Nat} (hx : x < n) (hf : S (f x)) : S x := by
  have key : ∀ k, ∀ y, y < n → S y → S (it f k y) := by
    intro k
    induction k with
    | zero => intro y _ h; exact h
    | succ k ih => intro y hy h'; exact hS _ (it_lt h k hy) (ih y hy h')
  have p := per_spec h hx
  have := key (per n f x - 1) (f x) (h.1 x hx) hf
  rw [← it_succ', show per n f x - 1 + 1 = per n f x by omega, p.2.2.1] at this
  exact this

/-- a set that both map into itself and that holds a point holds all that it leads to -/
theorem conn_closed {n : Nat} {a b : Nat → Nat} (ha : Bij n a) (hb : Bij n b) (S : Nat → Prop) (h1 : ∀ x, x < n → S x → S (a x)) (h2 : ∀ x, x < n → S x → S (b x)) {i j : Nat} (hc : conn n a b i j) (hi : S i) : S j := by
  have d : ∀ x, Decidable (S x) := fun x => Classical.propDecidable _
  have := hc (fun x => if S x then 1 else 0) (fun x hx => by
    constructor
    · by_cases c : S x
      · rw [if_pos c, if_pos (h1 x hx c)]
      · rw [if_neg c, if_neg (fun e => c (closed_back ha S h1 hx e))]
    · by_cases c : S x
      · rw [if_pos c, if_pos (h2 x hx c)]
      · rw [if_neg c, if_neg (fun e => c (closed_back hb S h2 hx e))])
  simp only [if_pos hi] at this
  by_cases c : S j
  · exact c
  · rw [if_neg c] at this; cases this

/-- a permutation renamed by another one -/
def conj (n : Nat) (g f : Nat → Nat) (y : Nat) : Nat := g (f (finv n g y))
end Go.Proofs.Ytajmkjeiegdpcaa.Sm
namespace Go.Proofs.Ytajmkjeiegdpcaa.R
open Go.RowKit Go.Proofs.YtajmkjeiegdpcaaW.PrintWords Go.Proofs.YtajmkjeiegdpcaaW.PrintLast Go.Proofs.YtajmkjeiegdpcaaW.PrintMore Go.Proofs.Ytajmkjeiegdpcaa.F Go.Proofs.Ytajmkjeiegdpcaa.Sm
theorem Ev.pos {α : Type} {c : Prop} [Decidable c] {A B : Nat → Option α} {r : α} (h : c) (k : Ev A r) : Ev (fun n => if c then A n else B n) r := by
  simp only [if_pos h]; exact k

theorem Ev.neg {α : Type} {c : Prop} [Decidable c] {A B : Nat → Option α} {r : α} (h : ¬ c) (k : Ev B r) : Ev (fun n => if c then A n else B n) r := by
  simp only [if_neg h]; exact k

theorem Ev.bind1 {α β : Type} {g : Nat → Option α} {f : Nat → α → Option β} {a : α} {r : β} (h : Ev g a) (k : Ev (fun n => f n a) r) : Ev (fun n => (g n).bind (f n)) r := Ev.bind h k

theorem Ev.some1 {α β : Type} {f : Nat → α → Option β} {a : α} {r : β} (k : Ev (fun n => f n a) r) : Ev (fun n => (some a).bind (f n)) r := k

theorem wrap_nat {i : Nat} (h : i < 9223372036854775807) : wrap64 ((i : Int) + 1) = ((i + 1 : Nat) : Int) := by unfold wrap64; omega

theorem wrap_in {n : Int} (h1 : -9223372036854775808 ≤ n) (h2 : n ≤ 9223372036854775807) : wrap64 n = n := by unfold wrap64; omega

theorem rd_get {l : List Int} {i : Nat} (h : i < l.length) : rd l (i : Int) = l[i] := by
  unfold rd; simp [h]

theorem rd_pm {n : Nat} {f : Nat → Nat} {i : Nat} (h : i < n) : rd (pm n f) (i : Int) = (f i : Int) := by
  unfold rd; exact pm_getD n f i h

theorem toIntS_loop (l : List Int) (hl : l.length ≤ 1048576) : ∀ d i (s : List Int), i + d = l.length → s.length = l.length → Ev (fun k => laws_toIntS.l0 k l s (i : Int)) (s.take i ++ l.drop i) := by
  intro d
  induction d with
  | zero =>
    intro i s hi hs
    refine Ev.step (f := fun _ => some s) (fun k => by rw [laws_toIntS.l0, if_neg (by omega)]) ?_
    rw [List.take_of_length_le (by omega), List.drop_of_length_le (by omega), List.append_nil]
    exact Ev.now _
  | succ d ih =>
    intro i s hi hs
    refine Ev.step (f := fun k => laws_toIntS.l0 k l (s.set i (rd l i)) ((i + 1 : Nat) : Int)) (fun k => by
      rw [laws_toIntS.l0, if_pos (by omega), if_pos (by omega), if_pos (by omega), wrap_nat (by omega)]; rfl) ?_
    have := ih (i + 1) (s.set i (rd l i)) (by omega) (by simp [hs])
    have e : (s.set i (rd l i)).take (i + 1) ++ l.drop (i + 1) = s.take i ++ l.drop i := by
      rw [List.drop_eq_getElem_cons (show i < l.length by omega), rd_get (by omega)]
      rw [List.take_succ_eq_append_getElem (by simp; omega)]
      rw [List.take_set_of_le (Nat.le_refl i)]
      simp
    rw [e] at this
    exact this

theorem toIntS_ev {l : List Int} (hl : l.length ≤ 1048576) : Ev (fun k => laws_toIntS.f k l) l := by
  unfold laws_toIntS.f
  refine Ev.pos (by omega) (Ev.pos (by omega) ?_)
  have := toIntS_loop l hl l.length 0 (List.replicate l.length 0) (by omega) (by simp)
  simpa using this

theorem eqIntS_loop (a b : List Int) (hl : a.length = b.length) (hb : a.length ≤ 1048576) : ∀ d i, i + d = a.length → Ev (fun k => laws_eqIntS.l0 k a b (i : Int)) (decide (a.drop i = b.drop i)) := by
  intro d
  induction d with
  | zero =>
    intro i hi
    refine Ev.step (f := fun _ => some true) (fun k => by rw [laws_eqIntS.l0, if_neg (by omega)]) ?_
    rw [List.drop_of_length_le (by omega), List.drop_of_length_le (by omega)]
    exact Ev.now _
  | succ d ih =>
    intro i hi
    have ha : i < a.length := by omega
    have hb' : i < b.length := by omega
    rw [List.drop_eq_getElem_cons ha, List.drop_eq_getElem_cons hb']
    by_cases c : a[i] = b[i]
    · refine Ev.step (f := fun k => laws_eqIntS.l0 k a b ((i + 1 : Nat) : Int)) (fun k => by
        rw [laws_eqIntS.l0, if_pos (by omega), if_pos (by omega), if_pos (by omega), rd_get ha, rd_get hb', if_pos c, wrap_nat (by omega)]) ?_
      have e : decide (a[i] :: a.drop (i + 1) = b[i] :: b.drop (i + 1)) = decide (a.drop (i + 1) = b.drop (i + 1)) := by
        simp only [List.cons.injEq, c, true_and]
      rw [e]
      exact ih (i + 1) (by omega)
    · refine Ev.step (f := fun k => some false) (fun k => by
        rw [laws_eqIntS.l0, if_pos (by omega), if_pos (by omega), if_pos (by omega), rd_get ha, rd_get hb', if_neg c]) ?_
      have : decide (a[i] :: a.drop (i + 1) = b[i] :: b.drop (i + 1)) = false := by
        simp only [List.cons.injEq, c, false_and, decide_false]
      rw [this]
      exact Ev.now _

theorem eqIntS_ev {a b : List Int} (hb : a.length ≤ 1048576) : Ev (fun k => laws_eqIntS.f k a b) (decide (a = b)) := by
  unfold laws_eqIntS.f
  by_cases c : a.length = b.length
  · refine Ev.pos (by omega) ?_
    exact eqIntS_loop a b c hb a.length 0 (by omega)
  · have : decide (a = b) = false := by simp; intro e; exact c (by rw [e])
    rw [this]
    exact Ev.neg (by omega) (Ev.now _)

def marks (m : Int) (n : Nat) : List Int := (List.range n).map fun (j : Nat) => m + (j : Int)

theorem marks_length (m : Int) (n : Nat) : (marks m n).length = n := by simp [marks]

theorem markIntS_loop (n : Nat) (m : Int) (hm : 0 ≤ m) (hb : m + n ≤ 9223372036854775807) : ∀ d i (l : List Int), i + d = n → l.length = n → l.take i = marks m i → Ev (fun k => laws_markIntS.l0 k l (m + i) (i : Int)) (m + n, marks m n) := by
  intro d
  induction d with
  | zero =>
    intro i l hi hl ht
    have e : i = n := by omega
    subst e
    refine Ev.step (f := fun _ => some (m + i, l)) (fun k => by rw [laws_markIntS.l0, if_neg (by omega)]) ?_
    rw [List.take_of_length_le (by omega)] at ht
    rw [ht]
    exact Ev.now _
  | succ d ih =>
    intro i l hi hl ht
    refine Ev.step (f := fun k => laws_markIntS.l0 k (l.set i (m + i)) (m + ((i + 1 : Nat) : Int)) ((i + 1 : Nat) : Int)) (fun k => by
      rw [laws_markIntS.l0, if_pos (by omega), if_pos (by omega), wrap_nat (by omega), show wrap64 (m + (i : Int) + 1) = m + ((i + 1 : Nat) : Int) by rw [wrap_in (by omega) (by omega)]; omega]; rfl) ?_
    refine ih (i + 1) _ (by omega) (by simp [hl]) ?_
    rw [List.take_succ_eq_append_getElem (by simp; omega), List.take_set_of_le (Nat.le_refl i), ht]
    simp [marks, List.range_succ]

theorem markIntS_ev {l : List Int} {m : Int} (hm : 0 ≤ m) (hb : m + l.length ≤ 9223372036854775807) : Ev (fun k => laws_markIntS.f k l m) (m + l.length, marks m l.length) := by
  unfold laws_markIntS.f
  have := markIntS_loop l.length m hm hb l.length 0 l (by omega) rfl (by simp [marks])
  simpa using this

theorem heldIntS_loop (n : Nat) (m : Int) (hm : 0 ≤ m) (hb : m + n ≤ 9223372036854775807) : ∀ d i, i + d = n → Ev (fun k => laws_heldIntS.l0 k (marks m n) (m + i) (i : Int)) (m + n) := by
  intro d
  induction d with
  | zero =>
    intro i hi
    have e : i = n := by omega
    subst e
    refine Ev.step (f := fun _ => some (m + i)) (fun k => by rw [laws_heldIntS.l0, if_neg (by rw [marks_length]; omega)]) ?_
    exact Ev.now _
  | succ d ih =>
    intro i hi
    have e : rd (marks m n) (i : Int) = m + i := by
      rw [rd_get (by rw [marks_length]; omega)]; simp [marks]
    refine Ev.step (f := fun k => laws_heldIntS.l0 k (marks m n) (m + ((i + 1 : Nat) : Int)) ((i + 1 : Nat) : Int)) (fun k => by
      rw [laws_heldIntS.l0, if_pos (by rw [marks_length]; omega), if_pos (by omega), if_pos e, wrap_nat (by omega), show wrap64 (m + (i : Int) + 1) = m + ((i + 1 : Nat) : Int) by rw [wrap_in (by omega) (by omega)]; omega]) ?_
    exact ih (i + 1) (by omega)

theorem heldIntS_ev {n : Nat} {m : Int} (hm : 0 ≤ m) (hb : m + n ≤ 9223372036854775807) : Ev (fun k => laws_heldIntS.f k (marks m n) m) (m + n) := by
  unfold laws_heldIntS.f
  have := heldIntS_loop n m hm hb n 0 (by omega)
  simpa using this

/-- a list that is a permutation -/
def IsPerm (n : Nat) (l : List Int) (f : Nat → Nat) : Prop := 1 ≤ n ∧ n ≤ 12 ∧ Bij n f ∧ l = pm n f

theorem valid_iff (l : List Int) : impl_PermValid.validB l = true ↔ ∃ f, IsPerm l.length l f := by
  unfold impl_PermValid.validB
  simp only [Bool.and_eq_true, decide_eq_true_eq, List.all_eq_true, List.mem_range]
  constructor
  · rintro ⟨⟨h1, h2⟩, h3⟩
    have h3' : ∀ i, i < l.length → 0 ≤ rd l i ∧ rd l i < l.length ∧ ∀ j, j < i → rd l j ≠ rd l i := by
      intro i hi
      have := h3 i hi
      unfold impl_PermValid.okAt at this
      simp only [Bool.and_eq_true, decide_eq_true_eq, Bool.not_eq_true', List.contains_eq_mem, decide_eq_false_iff_not] at this
      refine ⟨this.1.1, this.1.2, fun j hj e => this.2 ?_⟩
      rw [← e, rd_get (show j < l.length by omega)]
      rw [List.mem_iff_getElem]
      exact ⟨j, by simp; omega, by simp⟩
    refine ⟨fun i => (rd l i).toNat, h1, h2, ⟨fun i hi => by have := h3' i hi; show (rd l i).toNat < _; omega, fun i j hi hj e => ?_⟩, ?_⟩
    · have a := h3' i hi
      have b := h3' j hj
      have e' : (rd l i).toNat = (rd l j).toNat := e
      rcases Nat.lt_trichotomy i j with c | c | c
      · exact (b.2.2 i c (by omega)).elim
      · exact c
      · exact (a.2.2 j c (by omega)).elim
    · refine eq_pm _ _ _ rfl fun i hi => ?_
      have := h3' i hi
      show l.getD i 0 = (((rd l i).toNat : Nat) : Int)
      have e : l.getD i 0 = rd l i := rfl
      omega
  · rintro ⟨f, h1, h2, hf, e⟩
    refine ⟨⟨h1, h2⟩, fun i hi => ?_⟩
    have r : ∀ j, j < l.length → rd l j = (f j : Int) := fun j hj => by
      have := rd_pm (n := l.length) (f := f) hj
      rwa [← e] at this
    unfold impl_PermValid.okAt
    simp only [Bool.and_eq_true, decide_eq_true_eq, Bool.not_eq_true', List.contains_eq_mem, decide_eq_false_iff_not]
    refine ⟨⟨by rw [r i hi]; omega, by rw [r i hi]; have := hf.1 i hi; omega⟩, fun hm => ?_⟩
    rw [List.mem_iff_getElem] at hm
    obtain ⟨j, hj, ej⟩ := hm
    have hj' : j < i := by simp at hj; omega
    have : l[j]'(by omega) = rd l i := by simpa using ej
    rw [← rd_get (show j < l.length by omega), r i hi, r j (by omega)] at this
    have := hf.2 j i (by omega) hi (by omega)
    omega

theorem implValid_ev (l : List Int) : Ev (fun _ => impl_PermValid.f l) (impl_PermValid.validB l) := Ev.now _

/-- the reference's look: up to i all is well -/
theorem specValid_ev (l : List Int) (hl : l.length ≤ 4294967296) : Ev (fun k => spec_PermValid.f k l) (impl_PermValid.validB l) := by
  have e0 : ∀ (a b c : Int), spec_l6In.f a b c = some (decide (b ≤ a) && decide (a ≤ c)) := by
    intro a b c
    unfold spec_l6In.f
    by_cases h : b ≤ a
    · rw [if_pos h]; simp [h]
    · rw [if_neg h]; simp [h]
  -- the inner loop
  have inner : ∀ d i j, i < l.length → j + d = i → (∀ m, m < j → rd l m ≠ rd l i) → ∀ r, ((∀ m, m < i → rd l m ≠ rd l i) → Ev (fun k => spec_PermValid.l0 k l ((i + 1 : Nat) : Int)) r) → ((∃ m, m < i ∧ rd l m = rd l i) → r = false) → Ev (fun k => spec_PermValid.l1 k l (i : Int) (j : Int)) r := by
    intro d
    induction d with
    | zero =>
      intro i j hi hj hm r h1 h2
      refine Ev.step (f := fun k => spec_PermValid.l0 k l ((i + 1 : Nat) : Int)) (fun k => by rw [spec_PermValid.l1, if_neg (by omega), wrap_nat (by omega)]) ?_
      exact h1 (fun m hmi => hm m (by omega))
    | succ d ih =>
      intro i j hi hj hm r h1 h2
      by_cases c : rd l (j : Int) = rd l (i : Int)
      · have := h2 ⟨j, by omega, c⟩
        subst this
        refine Ev.step (f := fun k => some false) (fun k => by
          rw [spec_PermValid.l1, if_pos (by omega), if_pos (by omega), if_pos (by omega), if_pos (by omega), if_pos (by omega), if_pos c]) (Ev.now _)
      · refine Ev.step (f := fun k => spec_PermValid.l1 k l (i : Int) ((j + 1 : Nat) : Int)) (fun k => by
          rw [spec_PermValid.l1, if_pos (by omega), if_pos (by omega), if_pos (by omega), if_pos (by omega), if_pos (by omega), if_neg c, wrap_nat (by omega)]) ?_
        refine ih i (j + 1) hi (by omega) (fun m hm' => ?_) r h1 h2
        by_cases e : m = j
        · subst e; exact c
        · exact hm m (by omega)
  have outer : ∀ d i, i + d = l.length → (∀ m, m < i → impl_PermValid.okAt l m = true) → Ev (fun k => spec_PermValid.l0 k l (i : Int)) (impl_PermValid.validB l) := by
    intro d
    induction d with
    | zero =>
      intro i hi hm
      have e : impl_PermValid.validB l = (decide ((1 : Int) ≤ (l.length : Int)) && decide ((l.length : Int) ≤ 12)) := by
        unfold impl_PermValid.validB
        have : (List.range l.length).all (impl_PermValid.okAt l) = true := by
          rw [List.all_eq_true]; intro m hm'; exact hm m (by have := List.mem_range.1 hm'; omega)
        rw [this]
        rw [Bool.and_true]
        congr 1
        · simp; omega
        · simp; omega
      refine Ev.step (f := fun _ => some (impl_PermValid.validB l)) (fun k => by rw [spec_PermValid.l0, if_neg (by omega), e0, e]; rfl) (Ev.now _)
    | succ d ih =>
      intro i hi hm
      have hil : i < l.length := by omega
      have fail : impl_PermValid.okAt l i = false → impl_PermValid.validB l = false := impl_PermValid.valid_fail l i hil
      have ew : wrap64 ((l.length : Int) - 1) = (l.length : Int) - 1 := wrap_in (by omega) (by omega)
      by_cases c : 0 ≤ rd l (i : Int) ∧ rd l (i : Int) ≤ (l.length : Int) - 1
      · refine Ev.step (f := fun k => spec_PermValid.l1 k l (i : Int) ((0 : Nat) : Int)) (fun k => by
          rw [spec_PermValid.l0, if_pos (by omega), if_pos (by omega), e0, ew]
          simp only [Option.bind_some]
          rw [if_pos (by simp [c.1, c.2])]; rfl) ?_
        refine inner i i 0 hil (by omega) (fun m hm' => absurd hm' (by omega)) _ (fun hd => ?_) (fun hd => ?_)
        · refine ih (i + 1) (by omega) (fun m hm' => ?_)
          by_cases e : m = i
          · subst e
            unfold impl_PermValid.okAt
            simp only [Bool.and_eq_true, decide_eq_true_eq, Bool.not_eq_true', List.contains_eq_mem, decide_eq_false_iff_not]
            refine ⟨⟨c.1, by omega⟩, fun hx => ?_⟩
            rw [List.mem_iff_getElem] at hx
            obtain ⟨j, hj, ej⟩ := hx
            have hj' : j < m := by simp at hj; omega
            have : l[j]'(by omega) = rd l m := by simpa using ej
            rw [← rd_get (show j < l.length by omega)] at this
            exact hd j hj' this
          · exact hm m (by omega)
        · obtain ⟨m, hmi, em⟩ := hd
          apply fail
          unfold impl_PermValid.okAt
          have : (l.take i).contains (rd l i) = true := by
            rw [List.contains_eq_mem, decide_eq_true_eq, ← em, rd_get (show m < l.length by omega), List.mem_iff_getElem]
            exact ⟨m, by simp; omega, by simp⟩
          simp only [this, Bool.not_true, Bool.and_false]
      · have : impl_PermValid.validB l = false := by
          apply fail
          unfold impl_PermValid.okAt
          by_cases c1 : 0 ≤ rd l (i : Int)
          · have : ¬ rd l (i : Int) < l.length := by omega
            simp [this]
          · simp [c1]
        rw [this]
        refine Ev.step (f := fun k => some false) (fun k => by
          rw [spec_PermValid.l0, if_pos (by omega), if_pos (by omega), e0, ew]
          simp only [Option.bind_some]
          rw [if_neg]
          simp only [Bool.and_eq_true, decide_eq_true_eq]
          exact c) (Ev.now _)
  unfold spec_PermValid.f
  exact outer l.length 0 (by omega) (fun m hm => absurd hm (by omega))

theorem rd_set {s : List Int} {a b : Nat} {v : Int} (h : a < s.length) : rd (s.set a v) (b : Int) = if a = b then v else rd s (b : Int) := by
  unfold rd
  simp only [Int.toNat_natCast, List.getD_eq_getElem?_getD, List.getElem?_set]
  by_cases e : a = b
  · subst e; simp [h]
  · simp [e]

theorem eq_pm' {n : Nat} {f : Nat → Nat} {l : List Int} (hl : l.length = n) (h : ∀ i, i < n → rd l (i : Int) = (f i : Int)) : l = pm n f :=
  eq_pm n f l hl fun i hi => by have := h i hi; unfold rd at this; simpa using this

theorem still_ev {n : Nat} (hn : n ≤ 1000) : Ev (fun k => impl_still.f k (n : Int)) (pm n fun i => i) := by
  have loop : ∀ d i (s : List Int), i + d = n → s.length = n → (∀ j, j < i → rd s (j : Int) = (j : Int)) → Ev (fun k => impl_still.l0 k s (n : Int) (i : Int)) (pm n fun i => i) := by
    intro d
    induction d with
    | zero =>
      intro i s hi hs h
      refine Ev.step (f := fun _ => some s) (fun k => by rw [impl_still.l0, if_neg (by omega)]) ?_
      rw [eq_pm' (f := fun i => i) hs (fun j hj => h j (by omega))]
      exact Ev.now _
    | succ d ih =>
      intro i s hi hs h
      refine Ev.step (f := fun k => impl_still.l0 k (s.set i (i : Int)) (n : Int) ((i + 1 : Nat) : Int)) (fun k => by
        rw [impl_still.l0, if_pos (by omega), if_pos (by omega), if_pos (by omega), wrap_nat (by omega)]; rfl) ?_
      refine ih (i + 1) _ (by omega) (by simp [hs]) (fun j hj => ?_)
      rw [rd_set (by omega)]
      by_cases e : i = j
      · rw [if_pos e, e]
      · rw [if_neg e]; exact h j (by omega)
  unfold impl_still.f
  refine Ev.pos (by omega) (Ev.pos (by omega) ?_)
  have := loop n 0 (List.replicate n 0) (by omega) (by simp) (fun j hj => absurd hj (by omega))
  simpa using this

theorem l1Same_ev {n : Nat} (hn : n ≤ 1000) : Ev (fun k => spec_l1Same.f k (n : Int)) (pm n fun i => i) := by
  have loop : ∀ d i, i + d = n → Ev (fun k => spec_l1Same.l0 k (n : Int) (pm i fun i => i) (i : Int)) (pm n fun i => i) := by
    intro d
    induction d with
    | zero =>
      intro i hi
      have e : i = n := by omega
      subst e
      exact Ev.step (f := fun _ => some (pm i fun i => i)) (fun k => by rw [spec_l1Same.l0, if_neg (by omega)]) (Ev.now _)
    | succ d ih =>
      intro i hi
      refine Ev.step (f := fun k => spec_l1Same.l0 k (n : Int) (pm (i + 1) fun i => i) ((i + 1 : Nat) : Int)) (fun k => by
        rw [spec_l1Same.l0, if_pos (by omega), if_pos (by rw [pm_length]; omega), wrap_nat (by omega)]
        simp [pm, List.range_succ]) (ih (i + 1) (by omega))
  unfold spec_l1Same.f
  exact loop n 0 (by omega)

theorem mul_ev {n : Nat} {f g : Nat → Nat} (hn : n ≤ 1000) (hf : ∀ i, i < n → f i < n) : Ev (fun k => impl_mul.f k (pm n f) (pm n g)) (pm n fun i => g (f i)) := by
  have loop : ∀ d i (s : List Int), i + d = n → s.length = n → (∀ j, j < i → rd s (j : Int) = (g (f j) : Int)) → Ev (fun k => impl_mul.l0 k (pm n g) s (pm n f) (n : Int) (i : Int)) (pm n fun i => g (f i)) := by
    intro d
    induction d with
    | zero =>
      intro i s hi hs h
      refine Ev.step (f := fun _ => some s) (fun k => by rw [impl_mul.l0, if_neg (by omega)]) ?_
      rw [eq_pm' (f := fun i => g (f i)) hs (fun j hj => h j (by omega))]
      exact Ev.now _
    | succ d ih =>
      intro i s hi hs h
      have hfi := hf i (by omega)
      refine Ev.step (f := fun k => impl_mul.l0 k (pm n g) (s.set i (g (f i) : Int)) (pm n f) (n : Int) ((i + 1 : Nat) : Int)) (fun k => by
        rw [impl_mul.l0, if_pos (by omega), if_pos (by omega), if_pos (by rw [pm_length]; omega), rd_pm (by omega), if_pos (by omega), if_pos (by rw [pm_length]; omega), if_pos (by omega), wrap_nat (by omega), rd_pm hfi]; rfl) ?_
      refine ih (i + 1) _ (by omega) (by simp [hs]) (fun j hj => ?_)
      rw [rd_set (by omega)]
      by_cases e : i = j
      · rw [if_pos e, e]
      · rw [if_neg e]; exact h j (by omega)
  unfold impl_mul.f
  simp only [pm_length]
  refine Ev.pos (by omega) (Ev.pos (by omega) ?_)
  have := loop n 0 (List.replicate n 0) (by omega) (by simp) (fun j hj => absurd hj (by omega))
  simpa using this

theorem l1Mul_ev {n : Nat} {f g : Nat → Nat} (hn : n ≤ 1000) (hf : ∀ i, i < n → f i < n) : Ev (fun k => spec_l1Mul.f k (pm n f) (pm n g)) (pm n fun i => g (f i)) := by
  have loop : ∀ d i, i + d = n → Ev (fun k => spec_l1Mul.l0 k (pm n f) (pm n g) (pm i fun i => g (f i)) (i : Int)) (pm n fun i => g (f i)) := by
    intro d
    induction d with
    | zero =>
      intro i hi
      have e : i = n := by omega
      subst e
      exact Ev.step (f := fun _ => some (pm i fun i => g (f i))) (fun k => by rw [spec_l1Mul.l0, if_neg (by rw [pm_length]; omega)]) (Ev.now _)
    | succ d ih =>
      intro i hi
      have hfi := hf i (by omega)
      refine Ev.step (f := fun k => spec_l1Mul.l0 k (pm n f) (pm n g) (pm (i + 1) fun i => g (f i)) ((i + 1 : Nat) : Int)) (fun k => by
        rw [spec_l1Mul.l0, if_pos (by rw [pm_length]; omega), if_pos (by omega), rd_pm (by omega), if_pos (by omega), if_pos (by rw [pm_length]; omega), if_pos (by rw [pm_length]; omega), wrap_nat (by omega), rd_pm hfi]
        simp [pm, List.range_succ]) (ih (i + 1) (by omega))
  unfold spec_l1Mul.f
  exact loop n 0 (by omega)

theorem back_end {n : Nat} {f : Nat → Nat} (hf : Bij n f) {s : List Int} (hs : s.length = n) (h : ∀ j, j < n → rd s (f j : Int) = (j : Int)) : s = pm n (finv n f) := by
  refine eq_pm' hs fun y hy => ?_
  obtain ⟨h1, h2⟩ := finv_spec hf hy
  have := h _ h1
  rwa [h2] at this

theorem back_step {n : Nat} {f : Nat → Nat} (hf : Bij n f) {s : List Int} (hs : s.length = n) {i : Nat} (hi : i < n) (h : ∀ j, j < i → rd s (f j : Int) = (j : Int)) : ∀ j, j < i + 1 → rd (s.set (f i) (i : Int)) (f j : Int) = (j : Int) := by
  intro j hj
  rw [rd_set (by have := hf.1 i hi; omega)]
  by_cases e : i = j
  · subst e; rw [if_pos rfl]
  · rw [if_neg (fun d => e (hf.2 i j hi (by omega) d))]; exact h j (by omega)

theorem back_ev {n : Nat} {f : Nat → Nat} (hn : n ≤ 1000) (hf : Bij n f) : Ev (fun k => impl_back.f k (pm n f)) (pm n (finv n f)) := by
  have loop : ∀ d i (s : List Int), i + d = n → s.length = n → (∀ j, j < i → rd s (f j : Int) = (j : Int)) → Ev (fun k => impl_back.l0 k s (pm n f) (n : Int) (i : Int)) (pm n (finv n f)) := by
    intro d
    induction d with
    | zero =>
      intro i s hi hs h
      refine Ev.step (f := fun _ => some s) (fun k => by rw [impl_back.l0, if_neg (by omega)]) ?_
      rw [back_end hf hs (fun j hj => h j (by omega))]
      exact Ev.now _
    | succ d ih =>
      intro i s hi hs h
      have hfi := hf.1 i (by omega)
      refine Ev.step (f := fun k => impl_back.l0 k (s.set (f i) (i : Int)) (pm n f) (n : Int) ((i + 1 : Nat) : Int)) (fun k => by
        rw [impl_back.l0, if_pos (by omega), if_pos (by omega), if_pos (by rw [pm_length]; omega), rd_pm (by omega), if_pos (by omega), if_pos (by omega), wrap_nat (by omega)]; rfl) ?_
      exact ih (i + 1) _ (by omega) (by simp [hs]) (back_step hf hs (by omega) h)
  unfold impl_back.f
  simp only [pm_length]
  refine Ev.pos (by omega) (Ev.pos (by omega) ?_)
  have := loop n 0 (List.replicate n 0) (by omega) (by simp) (fun j hj => absurd hj (by omega))
  simpa using this

theorem l1Back_ev {n : Nat} {f : Nat → Nat} (hn : n ≤ 1000) (hf : Bij n f) : Ev (fun k => spec_l1Back.f k (pm n f)) (pm n (finv n f)) := by
  have loop : ∀ d i (s : List Int), i + d = n → s.length = n → (∀ j, j < i → rd s (f j : Int) = (j : Int)) → Ev (fun k => spec_l1Back.l0 k (pm n f) s (i : Int)) (pm n (finv n f)) := by
    intro d
    induction d with
    | zero =>
      intro i s hi hs h
      refine Ev.step (f := fun _ => some s) (fun k => by rw [spec_l1Back.l0, if_neg (by rw [pm_length]; omega)]) ?_
      rw [back_end hf hs (fun j hj => h j (by omega))]
      exact Ev.now _
    | succ d ih =>
      intro i s hi hs h
      have hfi := hf.1 i (by omega)
      refine Ev.step (f := fun k => spec_l1Back.l0 k (pm n f) (s.set (f i) (i : Int)) ((i + 1 : Nat) : Int)) (fun k => by
        rw [spec_l1Back.l0, if_pos (by rw [pm_length]; omega), if_pos (by omega), rd_pm (by omega), if_pos (by omega), if_pos (by omega), wrap_nat (by omega)]; rfl) ?_
      exact ih (i + 1) _ (by omega) (by simp [hs]) (back_step hf hs (by omega) h)
  unfold spec_l1Back.f
  simp only [pm_length]
  refine Ev.pos (by omega) (Ev.pos (by omega) ?_)
  have := loop n 0 (List.replicate n 0) (by omega) (by simp) (fun j hj => absurd hj (by omega))
  simpa using this

/-- two lists that are permutations of as many points -/
def both (a b : List Int) : Bool := impl_PermValid.validB a && impl_PermValid.validB b && decide (a.length = b.length)

theorem both_iff (a b : List Int) : both a b = true ↔ ∃ n f g, IsPerm n a f ∧ IsPerm n b g := by
  unfold both
  simp only [Bool.and_eq_true, decide_eq_true_eq, valid_iff]
  constructor
  · rintro ⟨⟨⟨f, hf⟩, g, hg⟩, e⟩
    rw [← e] at hg
    exact ⟨_, f, g, hf, hg⟩
  · rintro ⟨n, f, g, hf, hg⟩
    have e1 : a.length = n := by rw [hf.2.2.2, pm_length]
    have e2 : b.length = n := by rw [hg.2.2.2, pm_length]
    rw [e1, e2]
    exact ⟨⟨⟨f, hf⟩, g, hg⟩, rfl⟩

theorem l1Both_ev {a b : List Int} (ha : a.length ≤ 4294967296) (hb : b.length ≤ 4294967296) : Ev (fun k => spec_l1Both.f k a b) (both a b) := by
  unfold spec_l1Both.f both
  refine Ev.bind1 (specValid_ev a ha) ?_
  cases c : impl_PermValid.validB a with
  | false => exact Ev.neg (by simp) (Ev.now _)
  | true =>
    refine Ev.pos rfl (Ev.bind1 (specValid_ev b hb) ?_)
    cases d : impl_PermValid.validB b with
    | false => exact Ev.neg (by simp) (Ev.now _)
    | true =>
      refine Ev.pos rfl ?_
      have : ((a.length : Int) == (b.length : Int)) = (true && true && decide (a.length = b.length)) := by
        by_cases e : a.length = b.length
        · simp [e]
        · have : ¬ (a.length : Int) = (b.length : Int) := by omega
          simp [e, this]
      rw [this]
      exact Ev.now _

theorem pm_map {n : Nat} {f g : Nat → Nat} (hf : ∀ i, i < n → f i < n) : (pm n f).map (fun x => rd (pm n g) x) = pm n fun i => g (f i) := by
  unfold pm
  rw [List.map_map]
  apply List.map_congr_left
  intro i hi
  show rd (pm n g) ((f i : Nat) : Int) = _
  rw [rd_pm (hf i (by simpa using hi))]

/-- the way back, or no answer -/
noncomputable def backR (a : List Int) : List Int × Bool := if impl_PermValid.validB a = true then (pm a.length (finv a.length fun i => (rd a (i : Int)).toNat), true) else ([], false)

theorem finv_congr {n : Nat} {f g : Nat → Nat} (h : ∀ i, i < n → f i = g i) : finv n f = finv n g := by
  funext y
  unfold finv
  congr 1
  have : ∀ l : List Nat, (∀ i, i ∈ l → i < n) → l.find? (fun i => f i == y) = l.find? (fun i => g i == y) := by
    intro l
    induction l with
    | nil => intro _; rfl
    | cons a l ih => intro hl; simp only [List.find?_cons]; rw [h a (hl a (by simp)), ih (fun i hi => hl i (by simp [hi]))]
  exact this _ (fun i hi => by simpa using hi)

theorem backR_perm {n : Nat} {a : List Int} {f : Nat → Nat} (h : IsPerm n a f) : backR a = (pm n (finv n f), true) := by
  have e1 : a.length = n := by rw [h.2.2.2, pm_length]
  have v : impl_PermValid.validB a = true := (valid_iff a).2 ⟨f, by rw [e1]; exact h⟩
  unfold backR
  rw [if_pos v, e1]
  congr 2
  apply finv_congr
  intro i hi
  rw [h.2.2.2, rd_pm hi]; simp

theorem isPerm_rd {n : Nat} {a : List Int} {f : Nat → Nat} (h : IsPerm n a f) : ∀ i, i < n → (rd a (i : Int)).toNat = f i := by
  intro i hi; rw [h.2.2.2, rd_pm hi]; simp

theorem isPerm_len {n : Nat} {a : List Int} {f : Nat → Nat} (h : IsPerm n a f) : a.length = n := by rw [h.2.2.2, pm_length]

theorem isPerm_valid {n : Nat} {a : List Int} {f : Nat → Nat} (h : IsPerm n a f) : impl_PermValid.validB a = true :=
  (valid_iff a).2 ⟨f, by rw [isPerm_len h]; exact h⟩

noncomputable def conjR (a b : List Int) : List Int × Bool := if both a b = true then (((backR b).1.map (fun x => rd a x)).map (fun x => rd b x), true) else ([], false)

theorem conjR_perm {n : Nat} {a b : List Int} {f g : Nat → Nat} (h : IsPerm n a f) (k : IsPerm n b g) : conjR a b = (pm n (conj n g f), true) := by
  have c : both a b = true := (both_iff a b).2 ⟨n, f, g, h, k⟩
  unfold conjR
  rw [if_pos c, backR_perm k]
  show (((pm n (finv n g)).map fun x => rd a x).map (fun x => rd b x), true) = _
  rw [h.2.2.2, pm_map (finv_bij k.2.2.1).1, k.2.2.2, pm_map (comp_bij (finv_bij k.2.2.1) h.2.2.1).1]
  rfl

theorem specConj_ev {a b : List Int} (ha : a.length ≤ 4294967296) (hb : b.length ≤ 4294967296) : Ev (fun k => spec_PermConj.f k a b) (conjR a b) := by
  unfold spec_PermConj.f
  refine Ev.bind1 (l1Both_ev ha hb) ?_
  by_cases c : both a b = true
  · refine Ev.pos c ?_
    obtain ⟨n, f, g, hf, hg⟩ := (both_iff a b).1 c
    rw [conjR_perm hf hg]
    have h12 := hf.2.1
    rw [hf.2.2.2, hg.2.2.2]
    exact Ev.bind1 (l1Back_ev (by omega) hg.2.2.1) (Ev.bind1 (l1Mul_ev (by omega) (finv_bij hg.2.2.1).1) (Ev.bind1 (l1Mul_ev (by omega) (comp_bij (finv_bij hg.2.2.1) hf.2.2.1).1) (Ev.now _)))
  · unfold conjR
    rw [if_neg c]
    exact Ev.neg c (Ev.now _)

theorem mn_nat (a b : Nat) : mn (a : Int) (b : Int) = ((min a b : Nat) : Int) := by
  unfold mn
  rcases Nat.lt_or_ge b a with c | c
  · rw [if_pos (by omega), Nat.min_def, if_neg (by omega)]
  · rw [if_neg (by omega), Nat.min_def, if_pos c]

/-- o where i and j are told the number v -/
def up2 (o : Nat → Nat) (i j v : Nat) (x : Nat) : Nat := if j = x then v else if i = x then v else o x

theorem set2_pm {n : Nat} {o : Nat → Nat} {i j v : Nat} (hi : i < n) (hj : j < n) : ((pm n o).set i (v : Int)).set j (v : Int) = pm n (up2 o i j v) := by
  refine eq_pm' (by simp [pm_length]) fun x hx => ?_
  rw [rd_set (by simp [pm_length]; exact hj), rd_set (by rw [pm_length]; exact hi), rd_pm hx]
  unfold up2
  by_cases c : j = x
  · simp [c]
  · by_cases d : i = x
    · simp [c, d]
    · simp [c, d]

/-- what stays true of o -/
structure Oks (n : Nat) (a b o : Nat → Nat) : Prop where
  le : ∀ x, x < n → o x ≤ x
  conn : ∀ x, x < n → conn n a b x (o x)

theorem Oks.start (n : Nat) (a b : Nat → Nat) : Oks n a b (fun i => i) := ⟨fun _ _ => Nat.le_refl _, fun x _ => conn_refl n a b x⟩

theorem Oks.up {n : Nat} {a b o : Nat → Nat} (h : Oks n a b o) {i j : Nat} (hi : i < n) (hj : j < n) (hc : Sm.conn n a b i j) : Oks n a b (up2 o i j (min (o i) (o j))) := by
  have ci : Sm.conn n a b i (min (o i) (o j)) := by
    rw [Nat.min_def]
    split
    · exact h.conn i hi
    · exact conn_trans hc (h.conn j hj)
  refine ⟨fun x hx => ?_, fun x hx => ?_⟩
  · unfold up2
    have e1 := h.le i hi
    have e2 := h.le j hj
    have m1 : min (o i) (o j) ≤ o i := Nat.min_le_left _ _
    have m2 : min (o i) (o j) ≤ o j := Nat.min_le_right _ _
    split
    · omega
    · split
      · omega
      · exact h.le x hx
  · unfold up2
    split
    · rename_i e; subst e; exact conn_trans (conn_symm hc) ci
    · split
      · rename_i e; subst e; exact ci
      · exact h.conn x hx

def total (o : Nat → Nat) : Nat → Nat
  | 0 => 0
  | n + 1 => total o n + o n

theorem total_le {o o' : Nat → Nat} {n : Nat} (h : ∀ x, x < n → o' x ≤ o x) : total o' n ≤ total o n := by
  induction n with
  | zero => exact Nat.le_refl _
  | succ n ih =>
    have := ih (fun x hx => h x (by omega))
    have := h n (by omega)
    simp only [total]; omega

theorem total_lt {o o' : Nat → Nat} {n : Nat} (h : ∀ x, x < n → o' x ≤ o x) {y : Nat} (hy : y < n) (hlt : o' y < o y) : total o' n < total o n := by
  induction n with
  | zero => omega
  | succ n ih =>
    simp only [total]
    by_cases c : y = n
    · subst c
      have := total_le (o := o) (o' := o') (n := y) (fun x hx => h x (by omega))
      omega
    · have := ih (fun x hx => h x (by omega)) (by omega)
      have := h n (by omega)
      omega

theorem up2_le {o : Nat → Nat} {i j : Nat} (x : Nat) : up2 o i j (min (o i) (o j)) x ≤ o x := by
  unfold up2
  have m1 : min (o i) (o j) ≤ o i := Nat.min_le_left _ _
  have m2 : min (o i) (o j) ≤ o j := Nat.min_le_right _ _
  split
  · rename_i e; subst e; exact m2
  · split
    · rename_i e; subst e; exact m1
    · exact Nat.le_refl _

def OrbEnd (n : Nat) (a b : Nat → Nat) (r : List Int) : Prop := ∃ o, IsOrb n a b o ∧ r = pm n o

/-- one way through a permutation -/
theorem orbits_pass {n : Nat} {a b p : Nat → Nat} (hn : n ≤ 1000) (hp : Bij n p) (hc : ∀ i, i < n → conn n a b i (p i)) (q : Nat) (ls : List (List Int)) :
    ∀ d i (o o0 : Nat → Nat) (fl : Bool), i + d = n → Oks n a b o →
      (∀ x, x < n → o x ≤ o0 x) → (fl = false → ∀ x, x < n → o x = o0 x) → (fl = true → total o n < total o0 n) → (fl = false → ∀ x, x < i → o (p x) = o x) →
      (∀ o' fl', Oks n a b o' → (∀ x, x < n → o' x ≤ o0 x) → (fl' = false → ∀ x, x < n → o' x = o0 x) → (fl' = true → total o' n < total o0 n) → (fl' = false → ∀ x, x < n → o' (p x) = o' x) → (fl = true → fl' = true) →
        ∃ r, OrbEnd n a b r ∧ Ev (fun k => impl_orbits.l1 k ls (pm n o') fl' ls (ls.length : Int) (wrap64 ((q : Int) + 1))) r) →
      ∃ r, OrbEnd n a b r ∧ Ev (fun k => impl_orbits.l2 k ls (pm n o) fl ls (ls.length : Int) (q : Int) (pm n p) (n : Int) (i : Int)) r := by
  intro d
  induction d with
  | zero =>
    intro i o o0 fl hi ho h1 h2 h3 h4 hnext
    have e : i = n := by omega
    subst e
    obtain ⟨r, hr, ev⟩ := hnext o fl ho h1 h2 h3 h4 id
    exact ⟨r, hr, Ev.step (fun k => by rw [impl_orbits.l2, if_neg (by omega)]) ev⟩
  | succ d ih =>
    intro i o o0 fl hi ho h1 h2 h3 h4 hnext
    have hin : i < n := by omega
    have hpi := hp.1 i hin
    have ei : rd (pm n o) (i : Int) = (o i : Int) := rd_pm hin
    have ep : rd (pm n p) (i : Int) = (p i : Int) := rd_pm hin
    have eo : rd (pm n o) ((p i : Nat) : Int) = (o (p i) : Int) := rd_pm hpi
    have head : ∀ k, impl_orbits.l2 (k + 1) ls (pm n o) fl ls (ls.length : Int) (q : Int) (pm n p) (n : Int) (i : Int) =
        if o i = o (p i) then impl_orbits.l2 k ls (pm n o) fl ls (ls.length : Int) (q : Int) (pm n p) (n : Int) ((i + 1 : Nat) : Int)
        else impl_orbits.l2 k ls (pm n (up2 o i (p i) (min (o i) (o (p i))))) true ls (ls.length : Int) (q : Int) (pm n p) (n : Int) ((i + 1 : Nat) : Int) := by
      intro k
      rw [impl_orbits.l2, if_pos (by omega), if_pos (by omega), if_pos (by rw [pm_length]; omega), if_pos (by rw [pm_length]; omega), ep, if_pos (by omega), if_pos (by rw [pm_length]; omega), ei, eo, mn_nat, wrap_nat (by omega)]
      have es : ((pm n o).set (i : Int).toNat ((min (o i) (o (p i)) : Nat) : Int)).set ((p i : Nat) : Int).toNat ((min (o i) (o (p i)) : Nat) : Int) = pm n (up2 o i (p i) (min (o i) (o (p i)))) := set2_pm hin hpi
      rw [es]
      have m' : min (o i) (o (p i)) = if o i ≤ o (p i) then o i else o (p i) := Nat.min_def
      rw [m']
      by_cases c : o i = o (p i)
      · rw [if_pos c, if_pos (by split <;> omega), if_pos (by split <;> omega)]
      · rw [if_neg c]
        by_cases c2 : o i ≤ o (p i)
        · rw [if_pos c2, if_pos rfl, if_neg (by omega)]
        · rw [if_neg c2, if_neg (by omega)]
    by_cases c : o i = o (p i)
    · obtain ⟨r, hr, ev⟩ := ih (i + 1) o o0 fl (by omega) ho h1 h2 h3 (fun e x hx => by
        by_cases d : x = i
        · subst d; exact c.symm
        · exact h4 e x (by omega)) hnext
      exact ⟨r, hr, Ev.step (fun k => by rw [head k, if_pos c]) ev⟩
    · have ho' := ho.up hin hpi (hc i hin)
      have hlt : total (up2 o i (p i) (min (o i) (o (p i)))) n < total o0 n := by
        have a1 := total_le (o := o0) (o' := o) (n := n) h1
        have m' : min (o i) (o (p i)) = if o i ≤ o (p i) then o i else o (p i) := Nat.min_def
        by_cases c2 : o i ≤ o (p i)
        · have := total_lt (o := o) (o' := up2 o i (p i) (min (o i) (o (p i)))) (n := n) (fun x _ => up2_le x) hpi (by
            unfold up2; rw [if_pos rfl, m', if_pos c2]; omega)
          omega
        · have := total_lt (o := o) (o' := up2 o i (p i) (min (o i) (o (p i)))) (n := n) (fun x _ => up2_le x) hin (by
            unfold up2; rw [m', if_neg c2]; split
            · omega
            · rw [if_pos rfl]; omega)
          omega
      obtain ⟨r, hr, ev⟩ := ih (i + 1) (up2 o i (p i) (min (o i) (o (p i)))) o0 true (by omega) ho' (fun x hx => Nat.le_trans (up2_le x) (h1 x hx)) (fun e => by cases e) (fun _ => hlt) (fun e => by cases e) (fun o' fl' q1 q2 q3 q4 q5 q6 => hnext o' fl' q1 q2 q3 q4 q5 (fun _ => q6 rfl))
      exact ⟨r, hr, Ev.step (fun k => by rw [head k, if_neg c]) ev⟩

theorem implOrbits_ex {n : Nat} {a b : Nat → Nat} (hn : n ≤ 1000) (h1 : 1 ≤ n) (ha : Bij n a) (hb : Bij n b) : ∃ o, IsOrb n a b o ∧ Ev (fun k => impl_orbits.f k [pm n a, pm n b]) (pm n o) := by
  have loop : ∀ t (o : Nat → Nat), total o n ≤ t → Oks n a b o → ∃ r, OrbEnd n a b r ∧ Ev (fun k => impl_orbits.l0 k [pm n a, pm n b] (pm n o) true) r := by
    intro t
    induction t using Nat.strongRecOn with
    | _ t ih =>
      intro o ht ho
      have r0 : rd_L1 [pm n a, pm n b] ((0 : Nat) : Int) = pm n a := rfl
      have r1 : rd_L1 [pm n a, pm n b] ((1 : Nat) : Int) = pm n b := rfl
      obtain ⟨r, hr, ev⟩ := orbits_pass (a := a) (b := b) hn ha (fun i hi => conn_a hi) 0 [pm n a, pm n b] n 0 o o false (by omega) ho (fun _ _ => Nat.le_refl _) (fun _ _ _ => rfl) (fun e => by cases e) (fun _ x hx => absurd hx (by omega)) (fun o1 f1 ho1 l1 e1 t1 p1 _ => by
        obtain ⟨r, hr, ev⟩ := orbits_pass (a := a) (b := b) hn hb (fun i hi => conn_b hi) 1 [pm n a, pm n b] n 0 o1 o f1 (by omega) ho1 l1 e1 t1 (fun _ x hx => absurd hx (by omega)) (fun o2 f2 ho2 l2 e2 t2 p2 k2 => by
          have w2 : wrap64 (((1 : Nat) : Int) + 1) = 2 := by unfold wrap64; omega
          cases hf2 : f2 with
          | true =>
            have tl := t2 hf2
            obtain ⟨r, hr, ev⟩ := ih (total o2 n) (by omega) o2 (Nat.le_refl _) ho2
            refine ⟨r, hr, Ev.step (fun k => ?_) ev⟩
            rw [w2, impl_orbits.l1, if_neg (by simp)]
          | false =>
            have e2' := e2 hf2
            have f1f : f1 = false := by
              cases hf1 : f1 with
              | false => rfl
              | true => have := k2 hf1; rw [hf2] at this; cases this
            have e1' := e1 f1f
            have inv : IsOrb n a b o2 := ⟨fun x hx => ⟨by
              rw [e2' _ (ha.1 x hx), e2' x hx, ← e1' _ (ha.1 x hx), ← e1' x hx]; exact p1 f1f x hx, p2 hf2 x hx⟩, ho2.le, ho2.conn⟩
            refine ⟨pm n o2, ⟨o2, inv, rfl⟩, ?_⟩
            refine Ev.step (f := fun k => impl_orbits.l0 k [pm n a, pm n b] (pm n o2) false) (fun k => by rw [w2, impl_orbits.l1, if_neg (by simp)]) ?_
            exact Ev.step (f := fun _ => some (pm n o2)) (fun k => by rw [impl_orbits.l0, if_neg (by simp)]) (Ev.now _))
        refine ⟨r, hr, Ev.step (fun k => ?_) ev⟩
        have w1 : wrap64 (((0 : Nat) : Int) + 1) = ((1 : Nat) : Int) := by unfold wrap64; omega
        rw [w1, impl_orbits.l1, if_pos (by simp), if_pos (by omega), if_pos (by simp), r1, pm_length]; rfl)
      refine ⟨r, hr, ?_⟩
      refine Ev.step (f := fun k => impl_orbits.l1 k [pm n a, pm n b] (pm n o) false [pm n a, pm n b] (([pm n a, pm n b] : List (List Int)).length : Int) 0) (fun k => by rw [impl_orbits.l0, if_pos rfl]) ?_
      refine Ev.step (fun k => ?_) ev
      have : (0 : Int) = ((0 : Nat) : Int) := rfl
      rw [this, impl_orbits.l1, if_pos (by simp), if_pos (by omega), if_pos (by simp), r0, pm_length]; rfl
  obtain ⟨r, ⟨o, ho, rfl⟩, ev⟩ := loop (total (fun i => i) n) (fun i => i) (Nat.le_refl _) (Oks.start n a b)
  refine ⟨o, ho, ?_⟩
  unfold impl_orbits.f
  refine Ev.pos (by simp) ?_
  have e : ((rd_L1 [pm n a, pm n b] 0).length : Int) = (n : Int) := by
    show ((pm n a).length : Int) = _; rw [pm_length]
  rw [e]
  exact Ev.bind1 (still_ev hn) ev

def up3 (o : Nat → Nat) (i j k v : Nat) (x : Nat) : Nat := if k = x then v else if j = x then v else if i = x then v else o x

theorem set3_pm {n : Nat} {o : Nat → Nat} {i j k v : Nat} (hi : i < n) (hj : j < n) (hk : k < n) : (((pm n o).set i (v : Int)).set j (v : Int)).set k (v : Int) = pm n (up3 o i j k v) := by
  refine eq_pm' (by simp [pm_length]) fun x hx => ?_
  rw [rd_set (by simp [pm_length]; exact hk), rd_set (by simp [pm_length]; exact hj), rd_set (by rw [pm_length]; exact hi), rd_pm hx]
  unfold up3
  by_cases c : k = x
  · simp [c]
  · by_cases d : j = x
    · simp [c, d]
    · by_cases e : i = x
      · simp [c, d, e]
      · simp [c, d, e]

/-- between the least point and the start -/
structure Between (n : Nat) (a b O o : Nat → Nat) : Prop where
  low : ∀ x, x < n → O x ≤ o x
  high : ∀ x, x < n → o x ≤ x

def lowest (o a b : Nat → Nat) (i : Nat) : Nat := min (o i) (min (o (a i)) (o (b i)))

theorem Between.up {n : Nat} {a b O o : Nat → Nat} (ha : Bij n a) (hb : Bij n b) (hO : IsOrb n a b O) (h : Between n a b O o) {i : Nat} (hi : i < n) :
    Between n a b O (up3 o i (a i) (b i) (lowest o a b i)) ∧ (∀ x, up3 o i (a i) (b i) (lowest o a b i) x ≤ o x) ∧ (o i = O i → up3 o i (a i) (b i) (lowest o a b i) (a i) = O (a i) ∧ up3 o i (a i) (b i) (lowest o a b i) (b i) = O (b i)) := by
  have l1 := h.low i hi
  have l2 := h.low _ (ha.1 i hi)
  have l3 := h.low _ (hb.1 i hi)
  have k1 := (hO.keep i hi).1
  have k2 := (hO.keep i hi).2
  have vlow : O i ≤ lowest o a b i := by unfold lowest; omega
  have v1 : lowest o a b i ≤ o i := by unfold lowest; omega
  have v2 : lowest o a b i ≤ o (a i) := by unfold lowest; omega
  have v3 : lowest o a b i ≤ o (b i) := by unfold lowest; omega
  have le : ∀ x, up3 o i (a i) (b i) (lowest o a b i) x ≤ o x := by
    intro x; unfold up3
    split
    · rename_i e; rw [← e]; exact v3
    · split
      · rename_i e; rw [← e]; exact v2
      · split
        · rename_i e; rw [← e]; exact v1
        · exact Nat.le_refl _
  refine ⟨⟨fun x hx => ?_, fun x hx => Nat.le_trans (le x) (h.high x hx)⟩, le, fun e => ?_⟩
  · unfold up3
    split
    · rename_i e; rw [← e, k2]; exact vlow
    · split
      · rename_i e; rw [← e, k1]; exact vlow
      · split
        · rename_i e; rw [← e]; exact vlow
        · exact h.low x hx
  · have v : lowest o a b i = O i := by omega
    constructor
    · unfold up3
      split
      · rw [v, k1]
      · rw [if_pos rfl, v, k1]
    · unfold up3
      rw [if_pos rfl, v, k2]

theorem specOrbits_round {n : Nat} {a b O : Nat → Nat} (hn : n ≤ 1000) (ha : Bij n a) (hb : Bij n b) (hO : IsOrb n a b O) (q : Nat) (r : List Int) (o0 : Nat → Nat) :
    ∀ d i (o : Nat → Nat), i + d = n → Between n a b O o → (∀ x, o x ≤ o0 x) → (∀ x, x < i → o0 x = O x → o (a x) = O (a x) ∧ o (b x) = O (b x)) →
      (∀ o', Between n a b O o' → (∀ x, o' x ≤ o0 x) → (∀ x, x < n → o0 x = O x → o' (a x) = O (a x) ∧ o' (b x) = O (b x)) → Ev (fun k => spec_l1Orbits.l0 k (pm n a) (pm n b) (pm n o') (wrap64 ((q : Int) + 1))) r) →
      Ev (fun k => spec_l1Orbits.l1 k (pm n a) (pm n b) (pm n o) (q : Int) (i : Int)) r := by
  intro d
  induction d with
  | zero =>
    intro i o hi ho h1 h2 hnext
    have e : i = n := by omega
    subst e
    exact Ev.step (fun k => by rw [spec_l1Orbits.l1, if_neg (by rw [pm_length]; omega)]) (hnext o ho h1 h2)
  | succ d ih =>
    intro i o hi ho h1 h2 hnext
    have hin : i < n := by omega
    have hai := ha.1 i hin
    have hbi := hb.1 i hin
    have ei : rd (pm n o) (i : Int) = (o i : Int) := rd_pm hin
    have ea : rd (pm n a) (i : Int) = (a i : Int) := rd_pm hin
    have eb : rd (pm n b) (i : Int) = (b i : Int) := rd_pm hin
    have eoa : rd (pm n o) ((a i : Nat) : Int) = (o (a i) : Int) := rd_pm hai
    have eob : rd (pm n o) ((b i : Nat) : Int) = (o (b i) : Int) := rd_pm hbi
    obtain ⟨u1, u2, u3⟩ := ho.up ha hb hO hin
    have es : (((pm n o).set (i : Int).toNat ((lowest o a b i : Nat) : Int)).set ((a i : Nat) : Int).toNat ((lowest o a b i : Nat) : Int)).set ((b i : Nat) : Int).toNat ((lowest o a b i : Nat) : Int) = pm n (up3 o i (a i) (b i) (lowest o a b i)) := set3_pm hin hai hbi
    refine Ev.step (f := fun k => spec_l1Orbits.l1 k (pm n a) (pm n b) (pm n (up3 o i (a i) (b i) (lowest o a b i))) (q : Int) ((i + 1 : Nat) : Int)) (fun k => by
      rw [spec_l1Orbits.l1, if_pos (by rw [pm_length]; omega), if_pos (by omega), if_pos (by rw [pm_length]; omega), ea, if_pos (by omega), if_pos (by rw [pm_length]; omega), if_pos (by rw [pm_length]; omega), eb, if_pos (by omega), if_pos (by rw [pm_length]; omega), ei, eoa, eob, mn_nat, mn_nat, wrap_nat (by omega)]
      have es' := es
      unfold lowest at es' ⊢
      rw [es']) ?_
    refine ih (i + 1) _ (by omega) u1 (fun x => Nat.le_trans (u2 x) (h1 x)) (fun x hx hxo => ?_) hnext
    by_cases e : x = i
    · subst e
      have := ho.low x hin
      have := h1 x
      exact u3 (by omega)
    · obtain ⟨p1, p2⟩ := h2 x (by omega) hxo
      have hx' : x < n := by omega
      have q1 := u2 (a x)
      have q2 := u1.low _ (ha.1 x hx')
      have q3 := u2 (b x)
      have q4 := u1.low _ (hb.1 x hx')
      exact ⟨by omega, by omega⟩

/-- how many points tell their least one -/
def right (n : Nat) (O o : Nat → Nat) : Nat := (List.range n).countP fun x => o x == O x

theorem right_full {n : Nat} {O o : Nat → Nat} (h : right n O o = n) : ∀ x, x < n → o x = O x := by
  unfold right at h
  have : (List.range n).countP (fun x => o x == O x) = (List.range n).length := by rw [h, List.length_range]
  rw [List.countP_eq_length] at this
  intro x hx
  simpa using this x (by simpa using hx)

theorem right_grows {n : Nat} {a b O o o' : Nat → Nat} (ha : Bij n a) (hb : Bij n b) (hO : IsOrb n a b O) (h : Between n a b O o) (h' : Between n a b O o') (le : ∀ x, o' x ≤ o x)
    (st : ∀ x, x < n → o x = O x → o' (a x) = O (a x) ∧ o' (b x) = O (b x)) (hlt : right n O o < n) : right n O o < right n O o' := by
  have keep : ∀ x, x < n → o x = O x → o' x = O x := fun x hx e => by
    have := h'.low x hx; have := le x; omega
  -- a point that is not right yet
  have ex : ∃ x, x < n ∧ o x ≠ O x := by
    apply Classical.byContradiction
    intro c
    have : right n O o = n := by
      unfold right
      rw [List.countP_eq_length.2, List.length_range]
      intro x hx
      simp
      apply Classical.byContradiction
      intro d
      exact c ⟨x, by simpa using hx, d⟩
    omega
  obtain ⟨x, hx, hxo⟩ := ex
  have hm := hO.lt hx
  have om : o (O x) = O (O x) := by
    have i := hO.idem hx
    have := h.low _ hm
    have := h.high _ hm
    omega
  -- an edge out of the right ones
  have ex2 : ∃ u, u < n ∧ o u ≠ O u ∧ o' u = O u := by
    apply Classical.byContradiction
    intro c
    have cl : ∀ y, y < n → o y = O y → o (a y) = O (a y) ∧ o (b y) = O (b y) := by
      intro y hy e
      obtain ⟨s1, s2⟩ := st y hy e
      constructor
      · apply Classical.byContradiction; intro d; exact c ⟨a y, ha.1 y hy, d, s1⟩
      · apply Classical.byContradiction; intro d; exact c ⟨b y, hb.1 y hy, d, s2⟩
    exact hxo (conn_closed ha hb (fun y => o y = O y) (fun y hy e => (cl y hy e).1) (fun y hy e => (cl y hy e).2) (conn_symm (hO.conn x hx)) om)
  obtain ⟨u, hu, u1, u2⟩ := ex2
  unfold right
  have split : ∀ l : List Nat, (∀ y, y ∈ l → y < n) → l.countP (fun x => o x == O x) ≤ l.countP (fun x => o' x == O x) ∧ (u ∈ l → l.countP (fun x => o x == O x) < l.countP (fun x => o' x == O x)) := by
    intro l
    induction l with
    | nil => intro _; exact ⟨Nat.le_refl _, fun h => by simp at h⟩
    | cons y l ih =>
      intro hl
      obtain ⟨i1, i2⟩ := ih (fun z hz => hl z (by simp [hz]))
      have hy := hl y (by simp)
      rw [List.countP_cons, List.countP_cons]
      have mono : (if (o y == O y) = true then 1 else 0) ≤ (if (o' y == O y) = true then 1 else 0) := by
        by_cases e : o y = O y
        · have := keep y hy e; simp [e, this]
        · simp [e]
      refine ⟨by omega, fun hm => ?_⟩
      by_cases e : u = y
      · subst e
        simp [u1, u2]; omega
      · have := i2 (by simpa [e] using hm)
        omega
  exact (split (List.range n) (fun y hy => by simpa using hy)).2 (by simpa using hu)

theorem specOrbits_ev {n : Nat} {a b O : Nat → Nat} (hn : n ≤ 1000) (ha : Bij n a) (hb : Bij n b) (hO : IsOrb n a b O) : Ev (fun k => spec_l1Orbits.f k (pm n a) (pm n b)) (pm n O) := by
  have loop : ∀ d q (o : Nat → Nat), q + d = n → Between n a b O o → q ≤ right n O o → Ev (fun k => spec_l1Orbits.l0 k (pm n a) (pm n b) (pm n o) (q : Int)) (pm n O) := by
    intro d
    induction d with
    | zero =>
      intro q o hq ho hr
      have e : pm n o = pm n O := by
        rw [pm_ext]
        have : right n O o ≤ n := by
          unfold right
          have := List.countP_le_length (p := fun x => o x == O x) (l := List.range n)
          simpa using this
        exact right_full (by omega)
      rw [e]
      exact Ev.step (f := fun _ => some (pm n O)) (fun k => by rw [spec_l1Orbits.l0, if_neg (by rw [pm_length]; omega)]) (Ev.now _)
    | succ d ih =>
      intro q o hq ho hr
      refine Ev.step (f := fun k => spec_l1Orbits.l1 k (pm n a) (pm n b) (pm n o) (q : Int) ((0 : Nat) : Int)) (fun k => by
        rw [spec_l1Orbits.l0, if_pos (by rw [pm_length]; omega)]; rfl) ?_
      refine specOrbits_round hn ha hb hO q (pm n O) o n 0 o (by omega) ho (fun _ => Nat.le_refl _) (fun x hx => absurd hx (by omega)) (fun o' h1 h2 h3 => ?_)
      rw [wrap_nat (by omega)]
      refine ih (q + 1) o' (by omega) h1 ?_
      by_cases c : right n O o < n
      · have := right_grows ha hb hO ho h1 h2 h3 c
        omega
      · have le : right n O o ≤ n := by
          unfold right
          have := List.countP_le_length (p := fun x => o x == O x) (l := List.range n)
          simpa using this
        have full := right_full (n := n) (O := O) (o := o) (by omega)
        have : right n O o' = n := by
          unfold right
          rw [List.countP_eq_length.2, List.length_range]
          intro x hx
          have hx' : x < n := by simpa using hx
          have := full x hx'
          have := h1.low x hx'
          have := h2 x
          simp; omega
        omega
  unfold spec_l1Orbits.f
  rw [pm_length]
  refine Ev.bind1 (l1Same_ev hn) ?_
  exact loop n 0 (fun i => i) (by omega) ⟨fun x hx => hO.le x hx, fun _ _ => Nat.le_refl _⟩ (Nat.zero_le _)

theorem mx_nat (a b : Nat) : mx (a : Int) (b : Int) = ((max a b : Nat) : Int) := by
  unfold mx
  rcases Nat.lt_or_ge a b with c | c
  · rw [if_pos (by omega), Nat.max_def, if_pos (by omega)]
  · rw [if_neg (by omega), Nat.max_def]; split <;> omega

theorem max_ev {n : Nat} {o : Nat → Nat} (h1 : 1 ≤ n) (hn : n ≤ 1000) : ∃ m : Nat, Ev (fun k => slices_Max_int_int.f k (pm n o)) (m : Int) ∧ (m = 0 ↔ ∀ x, x < n → o x = 0) := by
  have loop : ∀ d i (m : Nat), i + d = n → (m = 0 ↔ ∀ x, x < i → o x = 0) → ∃ m' : Nat, Ev (fun k => slices_Max_int_int.l0 k (pm n o) (m : Int) (i : Int)) (m' : Int) ∧ (m' = 0 ↔ ∀ x, x < n → o x = 0) := by
    intro d
    induction d with
    | zero =>
      intro i m hi hm
      have e : i = n := by omega
      subst e
      exact ⟨m, Ev.step (f := fun _ => some (m : Int)) (fun k => by rw [slices_Max_int_int.l0, if_neg (by rw [pm_length]; omega)]) (Ev.now _), hm⟩
    | succ d ih =>
      intro i m hi hm
      have hin : i < n := by omega
      obtain ⟨m', ev, h⟩ := ih (i + 1) (max m (o i)) (by omega) (by
        constructor
        · intro e x hx
          have e1 : m = 0 := by omega
          by_cases c : x = i
          · subst c; omega
          · exact hm.1 e1 x (by omega)
        · intro e
          have := hm.2 fun x hx => e x (by omega)
          have := e i (by omega)
          omega)
      refine ⟨m', Ev.step (f := fun k => slices_Max_int_int.l0 k (pm n o) ((max m (o i) : Nat) : Int) ((i + 1 : Nat) : Int)) (fun k => by
        rw [slices_Max_int_int.l0, if_pos (by rw [pm_length]; omega), if_pos (by omega), rd_pm hin, mx_nat, wrap_nat (by omega)]) ev, h⟩
  obtain ⟨m', ev, h⟩ := loop (n - 1) 1 (o 0) (by omega) (by
    constructor
    · intro e x hx
      have : x = 0 := by omega
      subst this; exact e
    · intro e; exact e 0 (by omega))
  refine ⟨m', ?_, h⟩
  unfold slices_Max_int_int.f
  refine Ev.neg (by rw [pm_length]; omega) (Ev.pos (by rw [pm_length]; omega) ?_)
  have e0 : rd (pm n o) 0 = (o 0 : Int) := rd_pm (i := 0) (by omega)
  rw [e0]
  exact ev

/-- two lists that are a map: the second has no fixed point and is its own way back, and they lead everywhere -/
def IsMp (n : Nat) (a b : List Int) (f g : Nat → Nat) : Prop := IsPerm n a f ∧ IsPerm n b g ∧ (∀ i, i < n → g i ≠ i ∧ g (g i) = i) ∧ ∃ o, IsOrb n f g o ∧ ∀ x, x < n → o x = 0

def mapAt (a b : List Int) : Prop := ∃ n f g, IsMp n a b f g

noncomputable def mvalid (a b : List Int) : Bool := @decide (mapAt a b) (Classical.propDecidable _)

theorem mvalid_iff (a b : List Int) : mvalid a b = true ↔ mapAt a b := by unfold mvalid; simp

theorem mvalid_no {a b : List Int} (h : ¬ mapAt a b) : mvalid a b = false := by unfold mvalid; simp [h]

theorem mvalid_yes {a b : List Int} (h : mapAt a b) : mvalid a b = true := by unfold mvalid; simp [h]

theorem mapAt_both {a b : List Int} (h : mapAt a b) : both a b = true := by
  obtain ⟨n, f, g, hf, hg, _⟩ := h
  exact (both_iff a b).2 ⟨n, f, g, hf, hg⟩

theorem isPerm_same {n m : Nat} {a : List Int} {f g : Nat → Nat} (h : IsPerm n a f) (k : IsPerm m a g) : m = n ∧ ∀ i, i < n → g i = f i := by
  have e : m = n := by rw [← isPerm_len h, isPerm_len k]
  subst e
  exact ⟨rfl, fun i hi => by rw [← isPerm_rd h i hi, isPerm_rd k i hi]⟩

theorem isOrb_congr {n : Nat} {f g f' g' o : Nat → Nat} (ho : IsOrb n f g o) (ef : ∀ i, i < n → f' i = f i) (eg : ∀ i, i < n → g' i = g i) : IsOrb n f' g' o := by
  refine ⟨fun x hx => ?_, ho.le, fun x hx => ?_⟩
  · rw [ef x hx, eg x hx]; exact ho.keep x hx
  · intro cc hcc
    exact ho.conn x hx cc (fun y hy => by rw [← ef y hy, ← eg y hy]; exact hcc y hy)

/-- what it takes, when both are permutations -/
theorem mapAt_iff {n : Nat} {a b : List Int} {f g : Nat → Nat} (hf : IsPerm n a f) (hg : IsPerm n b g) {o : Nat → Nat} (ho : IsOrb n f g o) : mapAt a b ↔ (∀ i, i < n → g i ≠ i ∧ g (g i) = i) ∧ ∀ x, x < n → o x = 0 := by
  constructor
  · rintro ⟨m, f', g', hf', hg', h1, o', ho', h2⟩
    obtain ⟨rfl, ef⟩ := isPerm_same hf hf'
    obtain ⟨_, eg⟩ := isPerm_same hg hg'
    refine ⟨fun i hi => ?_, fun x hx => ?_⟩
    · have := h1 i hi
      rw [eg i hi, eg (g i) (hg.2.2.1.1 i hi)] at this
      exact this
    · rw [← (isOrb_congr ho' (fun i hi => (ef i hi).symm) (fun i hi => (eg i hi).symm)).unique ho x hx]; exact h2 x hx
  · rintro ⟨h1, h2⟩
    exact ⟨n, f, g, hf, hg, h1, o, ho, h2⟩

theorem implMapValid_ev (a b : List Int) : Ev (fun k => impl_MapValid.f k a b) (mvalid a b) := by
  unfold impl_MapValid.f
  have bad : ¬ mapAt a b → Ev (fun k => impl_MapValid.j0 k true a b) (mvalid a b) := by
    intro h
    rw [mvalid_no h]
    exact Ev.step (f := fun _ => some false) (fun k => by rw [impl_MapValid.j0, if_pos rfl]) (Ev.now _)
  by_cases c : both a b = true
  · obtain ⟨n, f, g, hf, hg⟩ := (both_iff a b).1 c
    have h12 := hf.2.1
    have lf := isPerm_len hf
    have lg := isPerm_len hg
    obtain ⟨o, ho, ev⟩ := implOrbits_ex (by omega) hf.1 hf.2.2.1 hg.2.2.1
    have iff := mapAt_iff hf hg ho
    have e : ((a.length : Int) != (b.length : Int)) = false := by rw [lf, lg]; simp
    refine Ev.bind1 (implValid_ev a) (Ev.pos (isPerm_valid hf) (Ev.bind1 (implValid_ev b) (Ev.pos (isPerm_valid hg) ?_)))
    rw [e]
    refine Ev.step (f := fun k => impl_MapValid.l0 k b (n : Int) ((0 : Nat) : Int) a b) (fun k => by rw [impl_MapValid.j0, if_neg (by simp), lg]; rfl) ?_
    have loop : ∀ d i, i + d = n → (∀ j, j < i → g j ≠ j ∧ g (g j) = j) → Ev (fun k => impl_MapValid.l0 k b (n : Int) (i : Int) a b) (mvalid a b) := by
      intro d
      induction d with
      | zero =>
        intro i hi hall
        have ei : i = n := by omega
        subst ei
        obtain ⟨m, em, hm⟩ := max_ev (o := o) hf.1 (by omega)
        refine Ev.step (fun k => by rw [impl_MapValid.l0]) (Ev.neg (by omega) ?_)
        have ev' : Ev (fun k => impl_orbits.f k [a, b]) (pm i o) := by rw [hf.2.2.2, hg.2.2.2]; exact ev
        refine Ev.bind1 ev' (Ev.bind1 em ?_)
        have : ((m : Int) == 0) = mvalid a b := by
          by_cases z : m = 0
          · rw [mvalid_yes (iff.2 ⟨hall, hm.1 z⟩), z]; rfl
          · rw [mvalid_no (fun h => z (hm.2 (iff.1 h).2))]
            exact beq_eq_false_iff_ne.mpr (by omega)
        rw [this]
        exact Ev.now _
      | succ d ih =>
        intro i hi hall
        have hin : i < n := by omega
        have g1 := hg.2.2.1.1 i hin
        have b1 : rd b (i : Int) = (g i : Int) := by rw [hg.2.2.2, rd_pm hin]
        have b2 : rd b (g i : Int) = (g (g i) : Int) := by rw [hg.2.2.2, rd_pm g1]
        by_cases z1 : g i = i
        · rw [mvalid_no (fun h => ((iff.1 h).1 i hin).1 z1)]
          exact Ev.step (f := fun _ => some false) (fun k => by rw [impl_MapValid.l0, if_pos (by omega), if_pos (by omega), if_pos (by omega), if_pos (by rw [b1, z1])]) (Ev.now _)
        · by_cases z2 : g (g i) = i
          · refine Ev.step (f := fun k => impl_MapValid.l0 k b (n : Int) ((i + 1 : Nat) : Int) a b) (fun k => by
              rw [impl_MapValid.l0, if_pos (by omega), if_pos (by omega), if_pos (by omega), if_neg (by rw [b1]; omega), b1, if_pos (by omega), if_pos (by omega), if_pos (by rw [b2, z2]), wrap_nat (by omega)]) (ih (i + 1) (by omega) ?_)
            intro j hj
            by_cases e : j = i
            · subst e; exact ⟨z1, z2⟩
            · exact hall j (by omega)
          · rw [mvalid_no (fun h => z2 ((iff.1 h).1 i hin).2)]
            exact Ev.step (f := fun _ => some false) (fun k => by rw [impl_MapValid.l0, if_pos (by omega), if_pos (by omega), if_pos (by omega), if_neg (by rw [b1]; omega), b1, if_pos (by omega), if_pos (by omega), if_neg (by rw [b2]; omega)]) (Ev.now _)
    exact loop n 0 (by omega) (fun j hj => by omega)
  · have no : ¬ mapAt a b := fun h => c (mapAt_both h)
    refine Ev.bind1 (implValid_ev a) ?_
    by_cases c1 : impl_PermValid.validB a = true
    · refine Ev.pos c1 (Ev.bind1 (implValid_ev b) ?_)
      by_cases c2 : impl_PermValid.validB b = true
      · refine Ev.pos c2 ?_
        have : ((a.length : Int) != (b.length : Int)) = true := by
          simp only [bne_iff_ne, ne_eq]
          intro e
          apply c
          unfold both
          have : a.length = b.length := by omega
          simp [c1, c2, this]
        rw [this]; exact bad no
      · exact Ev.neg c2 (bad no)
    · exact Ev.neg c1 (bad no)

theorem specMapValid_ev {a b : List Int} (ha : a.length ≤ 4294967296) (hb : b.length ≤ 4294967296) : Ev (fun k => spec_MapValid.f k a b) (mvalid a b) := by
  unfold spec_MapValid.f
  refine Ev.bind1 (l1Both_ev ha hb) ?_
  by_cases c : both a b = true
  · obtain ⟨n, f, g, hf, hg⟩ := (both_iff a b).1 c
    have h12 := hf.2.1
    have lf := isPerm_len hf
    have lg := isPerm_len hg
    obtain ⟨o, ho, _⟩ := implOrbits_ex (by omega) hf.1 hf.2.2.1 hg.2.2.1
    have ev := specOrbits_ev (by omega) hf.2.2.1 hg.2.2.1 ho
    have iff := mapAt_iff hf hg ho
    refine Ev.pos c ?_
    have last : (∀ j, j < n → g j ≠ j ∧ g (g j) = j) → ∀ d i, i + d = n → (∀ j, j < i → o j = 0) → Ev (fun k => spec_MapValid.l1 k (pm n o) (i : Int)) (mvalid a b) := by
      intro hall d
      induction d with
      | zero =>
        intro i hi h0
        have ei : i = n := by omega
        subst ei
        rw [mvalid_yes (iff.2 ⟨hall, h0⟩)]
        exact Ev.step (f := fun _ => some true) (fun k => by rw [spec_MapValid.l1, if_neg (by rw [pm_length]; omega)]) (Ev.now _)
      | succ d ih =>
        intro i hi h0
        have hin : i < n := by omega
        by_cases z : o i = 0
        · refine Ev.step (f := fun k => spec_MapValid.l1 k (pm n o) ((i + 1 : Nat) : Int)) (fun k => by
            rw [spec_MapValid.l1, if_pos (by rw [pm_length]; omega), if_pos (by omega), if_pos (by rw [rd_pm hin, z]; rfl), wrap_nat (by omega)]) (ih (i + 1) (by omega) ?_)
          intro j hj
          by_cases e : j = i
          · subst e; exact z
          · exact h0 j (by omega)
        · rw [mvalid_no (fun h => z ((iff.1 h).2 i hin))]
          exact Ev.step (f := fun _ => some false) (fun k => by rw [spec_MapValid.l1, if_pos (by rw [pm_length]; omega), if_pos (by omega), if_neg (by rw [rd_pm hin]; omega)]) (Ev.now _)
    have loop : ∀ d i, i + d = n → (∀ j, j < i → g j ≠ j ∧ g (g j) = j) → Ev (fun k => spec_MapValid.l0 k (i : Int) a b) (mvalid a b) := by
      intro d
      induction d with
      | zero =>
        intro i hi hall
        have ei : i = n := by omega
        subst ei
        refine Ev.step (fun k => by rw [spec_MapValid.l0]) (Ev.neg (by omega) ?_)
        have ev' : Ev (fun k => spec_l1Orbits.f k a b) (pm i o) := by rw [hf.2.2.2, hg.2.2.2]; exact ev
        exact Ev.bind1 ev' (last hall i 0 (by omega) (fun j hj => by omega))
      | succ d ih =>
        intro i hi hall
        have hin : i < n := by omega
        have g1 := hg.2.2.1.1 i hin
        have b1 : rd b (i : Int) = (g i : Int) := by rw [hg.2.2.2, rd_pm hin]
        have b2 : rd b (g i : Int) = (g (g i) : Int) := by rw [hg.2.2.2, rd_pm g1]
        by_cases z1 : g i = i
        · rw [mvalid_no (fun h => ((iff.1 h).1 i hin).1 z1)]
          exact Ev.step (f := fun _ => some false) (fun k => by rw [spec_MapValid.l0, if_pos (by omega), if_pos (by omega), if_pos (by rw [b1, z1])]) (Ev.now _)
        · by_cases z2 : g (g i) = i
          · refine Ev.step (f := fun k => spec_MapValid.l0 k ((i + 1 : Nat) : Int) a b) (fun k => by
              rw [spec_MapValid.l0, if_pos (by omega), if_pos (by omega), if_neg (by rw [b1]; omega), b1, if_pos (by omega), if_pos (by omega), if_pos (by rw [b2, z2]), wrap_nat (by omega)]) (ih (i + 1) (by omega) ?_)
            intro j hj
            by_cases e : j = i
            · subst e; exact ⟨z1, z2⟩
            · exact hall j (by omega)
          · rw [mvalid_no (fun h => z2 ((iff.1 h).1 i hin).2)]
            exact Ev.step (f := fun _ => some false) (fun k => by rw [spec_MapValid.l0, if_pos (by omega), if_pos (by omega), if_neg (by rw [b1]; omega), b1, if_pos (by omega), if_pos (by omega), if_neg (by rw [b2]; omega)]) (Ev.now _)
    exact loop n 0 (by omega) (fun j hj => by omega)
  · rw [mvalid_no fun h => c (mapAt_both h)]
    exact Ev.neg c (Ev.now _)

theorem szInt_ex {l : List Int} {s : Int} (h0 : 0 ≤ s) (h1 : s ≤ 1048576) (hl : l.length ≤ maxLen) : ∃ r, laws_szIntS.f l s = some r ∧ (r < 0 ∨ (0 ≤ r ∧ r = s - l.length)) := by
  unfold maxLen at hl
  have w : wrap64 (s - (l.length : Int)) = s - l.length := wrap_in (by omega) (by omega)
  unfold laws_szIntS.f
  rw [w]
  by_cases c : s - (l.length : Int) < 0
  · exact ⟨-1, by rw [if_pos c], .inl (by omega)⟩
  · exact ⟨s - l.length, by rw [if_neg c], .inr ⟨by omega, rfl⟩⟩

theorem szMap_ev {a b : List Int} (ha : a.length ≤ maxLen) (hb : b.length ≤ maxLen) : ∃ r, Ev (fun _ => laws_szMap.f a b 1048576) r ∧ (¬ r < 0 → a.length + b.length ≤ 1048576) := by
  obtain ⟨r, e, h⟩ := szInt_ex (s := 1048576) (by omega) (by omega) ha
  unfold laws_szMap.f
  rw [e]
  rcases h with h | ⟨h, k⟩
  · exact ⟨-1, Ev.some1 (Ev.pos h (Ev.now _)), fun n => (n (by omega)).elim⟩
  · obtain ⟨r', e', h'⟩ := szInt_ex (s := r) h (by omega) hb
    have e2 : Ev (fun _ : Nat => laws_szIntS.f b r) r' := by rw [e']; exact Ev.now _
    rcases h' with h' | ⟨h', k'⟩
    · exact ⟨-1, Ev.some1 (Ev.neg (by omega) (Ev.bind1 e2 (Ev.pos h' (Ev.now _)))), fun n => (n (by omega)).elim⟩
    · refine ⟨r', Ev.some1 (Ev.neg (by omega) (Ev.bind1 e2 (Ev.neg (by omega) (Ev.now _)))), fun _ => by omega⟩

theorem toMap_ev {a b : List Int} (ha : a.length ≤ 1048576) (hb : b.length ≤ 1048576) : Ev (fun k => laws_toMap.f k a b) (a, b) := by
  unfold laws_toMap.f
  exact Ev.bind1 (toIntS_ev ha) (Ev.bind1 (toIntS_ev hb) (Ev.now _))

theorem eqMap_self {a b : List Int} (ha : a.length ≤ 1048576) (hb : b.length ≤ 1048576) : Ev (fun k => laws_eqMap.f k a b a b) true := by
  unfold laws_eqMap.f
  exact Ev.bind1 (eqIntS_ev ha) (Ev.pos (by simp) (Ev.bind1 (eqIntS_ev hb) (Ev.pos (by simp) (Ev.now _))))

theorem markMap_ev {a b : List Int} (ha : a.length ≤ 1048576) (hb : b.length ≤ 1048576) : Ev (fun k => laws_markMap.f k a b 1) (1 + a.length + b.length, marks 1 a.length, marks (1 + a.length) b.length) := by
  unfold laws_markMap.f
  exact Ev.bind1 (markIntS_ev (by omega) (by omega)) (Ev.bind1 (markIntS_ev (by omega) (by omega)) (Ev.now _))

theorem heldMap_ev {n m : Nat} (hn : n ≤ 1048576) (hm : m ≤ 1048576) : Ev (fun k => laws_heldMap.f k (marks 1 n) (marks (1 + n) m) 1) (1 + n + m) := by
  unfold laws_heldMap.f
  exact Ev.bind1 (heldIntS_ev (by omega) (by omega)) (Ev.neg (by omega) (Ev.bind1 (heldIntS_ev (by omega) (by omega)) (Ev.neg (by omega) (Ev.now _))))

theorem implRenamed_ev {n : Nat} {f s g : Nat → Nat} (hn : n ≤ 1000) (hf : Bij n f) (hs : Bij n s) (hg : Bij n g) : Ev (fun k => impl_renamed.f k (pm n f) (pm n s) (pm n g)) (pm n (conj n g f), pm n (conj n g s)) := by
  unfold impl_renamed.f
  exact Ev.bind1 (back_ev hn hg) (Ev.bind1 (mul_ev hn (finv_bij hg).1) (Ev.bind1 (mul_ev hn (comp_bij (finv_bij hg) hf).1) (Ev.bind1 (back_ev hn hg) (Ev.bind1 (mul_ev hn (finv_bij hg).1) (Ev.bind1 (mul_ev hn (comp_bij (finv_bij hg) hs).1) (Ev.now _))))))

theorem specRename_ev {n : Nat} {f s g : Nat → Nat} (h1 : 1 ≤ n) (hn : n ≤ 12) (hf : Bij n f) (hs : Bij n s) (hg : Bij n g) : Ev (fun k => spec_l2Rename.f k (pm n f) (pm n s) (pm n g)) (pm n (conj n g f), pm n (conj n g s)) := by
  have kf : IsPerm n (pm n f) f := ⟨h1, hn, hf, rfl⟩
  have ks : IsPerm n (pm n s) s := ⟨h1, hn, hs, rfl⟩
  have kg : IsPerm n (pm n g) g := ⟨h1, hn, hg, rfl⟩
  have e1 := specConj_ev (a := pm n f) (b := pm n g) (by rw [pm_length]; omega) (by rw [pm_length]; omega)
  have e2 := specConj_ev (a := pm n s) (b := pm n g) (by rw [pm_length]; omega) (by rw [pm_length]; omega)
  rw [conjR_perm kf kg] at e1
  rw [conjR_perm ks kg] at e2
  unfold spec_l2Rename.f
  exact Ev.bind1 e1 (Ev.bind1 e2 (Ev.now _))

theorem IsMp.le {n : Nat} {a b : List Int} {f g : Nat → Nat} (h : IsMp n a b f g) : a.length = n ∧ b.length = n ∧ 1 ≤ n ∧ n ≤ 12 := ⟨isPerm_len h.1, isPerm_len h.2.1, h.1.1, h.1.2.1⟩

theorem renameI {n : Nat} {a b c : List Int} {f g h : Nat → Nat} (m : IsMp n a b f g) (p : IsPerm n c h) : Ev (fun k => impl_MapRename.f k a b c) (pm n (conj n h f), pm n (conj n h g), true) := by
  have l := m.le
  have e : Ev (fun k => impl_renamed.f k a b c) (pm n (conj n h f), pm n (conj n h g)) := by
    rw [m.1.2.2.2, m.2.1.2.2.2, p.2.2.2]; exact implRenamed_ev (by omega) m.1.2.2.1 m.2.1.2.2.1 p.2.2.1
  exact Ev.bind1 (implMapValid_ev a b) (Ev.pos (mvalid_yes ⟨n, f, g, m⟩) (Ev.bind1 (implValid_ev c) (Ev.pos (isPerm_valid p) (Ev.pos (by rw [isPerm_len p, l.1]) (Ev.bind1 e (Ev.now _))))))

theorem rename_both {a b c : List Int} (ha : a.length ≤ 1048576) (hb : b.length ≤ 1048576) (hc : c.length ≤ 1048576) : ∃ r : List Int × List Int × Bool, r.1.length ≤ 12 ∧ r.2.1.length ≤ 12 ∧ Ev (fun k => spec_MapRename.f k a b c) r ∧ Ev (fun k => impl_MapRename.f k a b c) r := by
  by_cases v : mvalid a b = true
  · obtain ⟨n, f, g, m⟩ := (mvalid_iff a b).1 v
    have l := m.le
    by_cases w : both a c = true
    · obtain ⟨n', f', h, pa, pc⟩ := (both_iff a c).1 w
      have e : n' = n := by have := isPerm_len pa; omega
      subst e
      have e : Ev (fun k => spec_l2Rename.f k a b c) (pm n' (conj n' h f), pm n' (conj n' h g)) := by
        rw [m.1.2.2.2, m.2.1.2.2.2, pc.2.2.2]; exact specRename_ev (by omega) (by omega) m.1.2.2.1 m.2.1.2.2.1 pc.2.2.1
      exact ⟨(pm n' (conj n' h f), pm n' (conj n' h g), true), by rw [pm_length]; omega, by show (pm _ _).length ≤ 12; rw [pm_length]; omega,
        Ev.bind1 (specMapValid_ev (by omega) (by omega)) (Ev.pos v (Ev.bind1 (l1Both_ev (by omega) (by omega)) (Ev.pos w (Ev.bind1 e (Ev.now _))))), renameI m pc⟩
    · refine ⟨([], [], false), by simp, by simp, Ev.bind1 (specMapValid_ev (by omega) (by omega)) (Ev.pos v (Ev.bind1 (l1Both_ev (by omega) (by omega)) (Ev.neg w (Ev.now _)))), ?_⟩
      refine Ev.bind1 (implMapValid_ev a b) (Ev.pos v (Ev.bind1 (implValid_ev c) ?_))
      by_cases x : impl_PermValid.validB c = true
      · refine Ev.pos x (Ev.neg ?_ (Ev.now _))
        intro e
        apply w
        unfold both
        rw [isPerm_valid m.1, x]
        simp; omega
      · exact Ev.neg x (Ev.now _)
  · exact ⟨([], [], false), by simp, by simp, Ev.bind1 (specMapValid_ev (by omega) (by omega)) (Ev.neg v (Ev.now _)), Ev.bind1 (implMapValid_ev a b) (Ev.neg v (Ev.now _))⟩

/-- The reference and the program agree on a map renamed. -/
theorem FnExactMapRename : laws_FnExactMapRename.Pure := by
  intro a hA _ b hB _ c hC _
  refine Ev.rounds ?_
  unfold laws_FnExactMapRename.f
  by_cases cc : (c.length : Int) > 1048576
  · exact Ev.pos cc (Ev.now _)
  have hc : c.length ≤ 1048576 := by omega
  refine Ev.neg cc ?_
  obtain ⟨r, er, hr⟩ := szMap_ev hA hB
  refine Ev.bind1 er ?_
  by_cases d : r < 0
  · exact Ev.pos d (Ev.now _)
  have hab := hr d
  have ha : a.length ≤ 1048576 := by omega
  have hb : b.length ≤ 1048576 := by omega
  obtain ⟨v, h1, h2, es, ei⟩ := rename_both ha hb hc
  have h1' : v.1.length ≤ 1048576 := by omega
  have h2' : v.2.1.length ≤ 1048576 := by omega
  refine Ev.neg d (Ev.bind1 (toMap_ev ha hb) (Ev.bind1 (toIntS_ev hc) (Ev.bind1 es (Ev.bind1 (toMap_ev ha hb) (Ev.bind1 (toIntS_ev hc) (Ev.bind1 ei (Ev.bind1 (eqMap_self h1' h2') (Ev.pos rfl ?_))))))))
  refine Ev.step (fun k => by rw [laws_FnExactMapRename.j0]) ?_
  refine Ev.neg (by simp) (Ev.bind1 (toMap_ev ha hb) (Ev.bind1 (eqMap_self ha hb) (Ev.pos rfl (Ev.bind1 (toIntS_ev hc) (Ev.bind1 (eqIntS_ev hc) (Ev.pos (by simp) (Ev.bind1 (markMap_ev ha hb) (Ev.bind1 (markIntS_ev (by omega) (by show (1 + (a.length : Int) + (b.length : Int)) + _ ≤ _; omega)) (Ev.neg (by show ¬ ((1 + (a.length : Int) + (b.length : Int)) + (c.length : Int) < 0); omega) (Ev.bind1 (eqMap_self h1' h2') (Ev.pos rfl ?_)))))))))))
  refine Ev.step (fun k => by rw [laws_FnExactMapRename.j1]) ?_
  refine Ev.neg (by simp) (Ev.bind1 (markMap_ev h1' h2') (Ev.bind1 (heldMap_ev h1' h2') (Ev.neg (by omega) (Ev.pos rfl (Ev.bind1 (toMap_ev ha hb) (Ev.bind1 (toIntS_ev hc) (Ev.bind1 ei (Ev.bind1 (eqMap_self h1' h2') (Ev.pos rfl ?_)))))))))
  refine Ev.step (fun k => by rw [laws_FnExactMapRename.j2]) ?_
  exact Ev.neg (by simp) (Ev.bind1 (heldMap_ev h1' h2') (Ev.neg (by omega) (Ev.pos rfl (Ev.now _))))
end Go.Proofs.Ytajmkjeiegdpcaa.R
namespace Go.Proofs.Ytajmkjeiegdpcaa.Pure
theorem FnExactMapRename : Go.Proofs.Ytajmkjeiegdpcaa.F.laws_FnExactMapRename.Pure := Go.Proofs.Ytajmkjeiegdpcaa.R.FnExactMapRename
end Go.Proofs.Ytajmkjeiegdpcaa.Pure
