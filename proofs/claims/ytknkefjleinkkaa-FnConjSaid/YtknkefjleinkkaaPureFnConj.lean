/- Renaming goes through cycles. -/
import Derived.Test.YtknkefjleinkkaaF1
import Derived.Test.YtknkefjleinkkaaF2
import Derived.Test.YtknkefjleinkkaaF3
import Derived.Test.YtknkefjleinkkaaF5
import Derived.Test.YtknkefjleinkkaaF6
import Derived.Test.YtknkefjleinkkaaF11
import Derived.Test.YtknkefjleinkkaaF14
import Derived.Test.YtknkefjleinkkaaF15
import Derived.Test.YtknkefjleinkkaaF16
import Derived.Test.YtknkefjleinkkaaF17
import Derived.Test.YtknkefjleinkkaaF18
import Derived.Test.YtknkefjleinkkaaF19
import Derived.Test.YtknkefjleinkkaaF20
set_option linter.unusedVariables false
set_option linter.unusedSimpArgs false
namespace Go.Proofs.Ytknkefjleinkkaa.Sm
open List
/-- f permutes the numbers below n. -/
def Bij (n : Nat) (f : Nat → Nat) : Prop := (∀ i, i < n → f i < n) ∧ (∀ i j, i < n → j < n → f i = f j → i = j)

/-- the list of a permutation -/
def pm (n : Nat) (f : Nat → Nat) : List Int := (List.range n).map (fun i => (f i : Int))

theorem pm_length (n : Nat) (f : Nat → Nat) : (pm n f).length = n := by simp [pm]

theorem pm_getD (n : Nat) (f : Nat → Nat) (i : Nat) (h : i < n) : (pm n f).getD i 0 = (f i : Int) := by
  simp [pm, List.getD, h]

theorem pm_ext {n : Nat} {f g : Nat → Nat} : pm n f = pm n g ↔ ∀ i, i < n → f i = g i := by
  constructor
  · intro h i hi
    have := pm_getD n f i hi
    rw [h, pm_getD n g i hi] at this
    omega
  · intro h
    unfold pm
    apply List.map_congr_left
    intro i hi
    rw [h i (by simpa using hi)]

theorem eq_pm (n : Nat) (f : Nat → Nat) (l : List Int) (hl : l.length = n) (h : ∀ i, i < n → l.getD i 0 = (f i : Int)) : l = pm n f := by
  apply List.ext_getElem
  · rw [hl, pm_length]
  · intro i h1 h2
    have := h i (by omega)
    have e := pm_getD n f i (by omega)
    simp only [List.getD_eq_getElem?_getD, List.getElem?_eq_getElem h1, Option.getD_some] at this
    simp only [List.getD_eq_getElem?_getD, List.getElem?_eq_getElem h2, Option.getD_some] at e
    rw [this, e]

/-- the permutation without its last point -/
def byp (n : Nat) (f : Nat → Nat) (i : Nat) : Nat := if f i = n then f n else f i

theorem byp_bij {n : Nat} {f : Nat → Nat} (h : Bij (n + 1) f) : Bij n (byp n f) := by
  obtain ⟨h1, h2⟩ := h
  constructor
  · intro i hi
    unfold byp
    have a := h1 i (by omega)
    have b := h1 n (by omega)
    split
    · rename_i e
      have : f n ≠ n := fun e2 => by have := h2 i n (by omega) (by omega) (by omega); omega
      omega
    · omega
  · intro i j hi hj e
    unfold byp at e
    by_cases e1 : f i = n <;> by_cases e2 : f j = n
    · exact h2 i j (by omega) (by omega) (by omega)
    · rw [if_pos e1, if_neg e2] at e
      have := h2 n j (by omega) (by omega) e; omega
    · rw [if_neg e1, if_pos e2] at e
      have := h2 i n (by omega) (by omega) e; omega
    · rw [if_neg e1, if_neg e2] at e
      exact h2 i j (by omega) (by omega) e

theorem surj {n : Nat} {f : Nat → Nat} (h : Bij n f) : ∀ y, y < n → ∃ x, x < n ∧ f x = y := by
  induction n generalizing f with
  | zero => intro y hy; omega
  | succ n ih =>
    have hb := ih (byp_bij h)
    obtain ⟨h1, h2⟩ := h
    intro y hy
    by_cases e : y = n
    · subst e
      by_cases e1 : f y = y
      · exact ⟨y, by omega, e1⟩
      · have b := h1 y (by omega)
        obtain ⟨x, hx, e2⟩ := hb (f y) (by omega)
        unfold byp at e2
        split at e2
        · rename_i e3; exact ⟨x, by omega, e3⟩
        · have := h2 x y (by omega) (by omega) e2; omega
    · obtain ⟨x, hx, e2⟩ := hb y (by omega)
      unfold byp at e2
      split at e2
      · exact ⟨n, by omega, e2⟩
      · exact ⟨x, by omega, e2⟩

/-- the inverse below n -/
def finv (n : Nat) (f : Nat → Nat) (y : Nat) : Nat := ((List.range n).find? (fun i => f i == y)).getD 0

theorem finv_spec {n : Nat} {f : Nat → Nat} (h : Bij n f) {y : Nat} (hy : y < n) : finv n f y < n ∧ f (finv n f y) = y := by
  obtain ⟨x, hx, e⟩ := surj h y hy
  unfold finv
  cases hf : (List.range n).find? (fun i => f i == y) with
  | none =>
    rw [List.find?_eq_none] at hf
    exact absurd (hf x (by simpa using hx)) (by simp [e])
  | some z =>
    have a := List.mem_of_find?_eq_some hf
    have b := List.find?_some hf
    simp at a b
    exact ⟨by simpa using a, by simpa using b⟩

theorem finv_left {n : Nat} {f : Nat → Nat} (h : Bij n f) {x : Nat} (hx : x < n) : finv n f (f x) = x := by
  have := finv_spec h (h.1 x hx)
  exact h.2 _ _ this.1 hx this.2

theorem finv_bij {n : Nat} {f : Nat → Nat} (h : Bij n f) : Bij n (finv n f) := by
  refine ⟨fun i hi => (finv_spec h hi).1, fun i j hi hj e => ?_⟩
  have a := (finv_spec h hi).2
  have b := (finv_spec h hj).2
  rw [e] at a
  omega

theorem comp_bij {n : Nat} {f g : Nat → Nat} (h : Bij n f) (k : Bij n g) : Bij n (fun i => g (f i)) :=
  ⟨fun i hi => k.1 _ (h.1 i hi), fun i j hi hj e => h.2 i j hi hj (k.2 _ _ (h.1 i hi) (h.1 j hj) e)⟩

theorem id_bij (n : Nat) : Bij n (fun i => i) := ⟨fun _ h => h, fun _ _ _ _ e => e⟩

/-- f done m times -/
def it (f : Nat → Nat) : Nat → Nat → Nat
  | 0, x => x
  | m + 1, x => f (it f m x)

theorem it_lt {n : Nat} {f : Nat → Nat} (h : Bij n f) (m : Nat) {x : Nat} (hx : x < n) : it f m x < n := by
  induction m with
  | zero => exact hx
  | succ m ih => exact h.1 _ ih

/-- the points that f leads to from x -/
def orb (f : Nat → Nat) (x y : Nat) : Prop := ∃ k, it f k x = y

/-- no coloring that both keep tells i from j -/
def conn (n : Nat) (a b : Nat → Nat) (i j : Nat) : Prop := ∀ c : Nat → Nat, (∀ x, x < n → c (a x) = c x ∧ c (b x) = c x) → c i = c j

/-- o tells the least point that each point leads to -/
structure IsOrb (n : Nat) (a b o : Nat → Nat) : Prop where
  keep : ∀ x, x < n → o (a x) = o x ∧ o (b x) = o x
  le : ∀ x, x < n → o x ≤ x
  conn : ∀ x, x < n → conn n a b x (o x)

/-- a point's least one leads nowhere lower -/
theorem IsOrb.min {n : Nat} {a b o : Nat → Nat} (h : IsOrb n a b o) {x y : Nat} (hx : x < n) (hy : y < n) (hc : Sm.conn n a b x y) : o x ≤ y := by
  have := hc o h.keep
  rw [this]; exact h.le y hy

/-- a permutation renamed by another one -/
def conj (n : Nat) (g f : Nat → Nat) (y : Nat) : Nat := g (f (finv n g y))

theorem conj_at {n : Nat} {g f : Nat → Nat} (hg : Bij n g) {x : Nat} (hx : x < n) : conj n g f (g x) = g (f x) := by
  unfold conj; rw [finv_left hg hx]

theorem conj_bij {n : Nat} {g f : Nat → Nat} (hg : Bij n g) (hf : Bij n f) : Bij n (conj n g f) :=
  have h := comp_bij (finv_bij hg) hf
  comp_bij (g := g) h hg

theorem conj_eq {n : Nat} {g f k : Nat → Nat} (hg : Bij n g) (h : ∀ x, x < n → k (g x) = g (f x)) {y : Nat} (hy : y < n) : conj n g f y = k y := by
  obtain ⟨h1, h2⟩ := finv_spec hg hy
  unfold conj
  rw [← h _ h1, h2]

/-- keeps to the edges: zero at a dart, alike on a vertex, at most one more over an edge -/
structure Lip (n : Nat) (t s : Nat → Nat) (a : Nat) (D : Nat → Nat) : Prop where
  zero : D a = 0
  turn : ∀ x, x < n → D (t x) = D x
  edge : ∀ x, x < n → D x ≤ D (s x) + 1

structure IsDist (n : Nat) (t s : Nat → Nat) (a : Nat) (D : Nat → Nat) : Prop where
  lip : Lip n t s a D
  w0 : ∀ x, x < n → D x = 0 → orb t a x
  w1 : ∀ x m, x < n → D x = m + 1 → ∃ y, y < n ∧ orb t x y ∧ D (s y) = m

theorem Lip.orb {n : Nat} {t s : Nat → Nat} {a : Nat} {D : Nat → Nat} (h : Lip n t s a D) (ht : Bij n t) {x y : Nat} (hx : x < n) (o : orb t x y) : D y = D x := by
  obtain ⟨k, rfl⟩ := o
  induction k with
  | zero => rfl
  | succ k ih => show D (t (it t k x)) = D x; rw [h.turn _ (it_lt ht k hx), ih]

/-- nothing that keeps to the edges is greater -/
theorem IsDist.max {n : Nat} {t s : Nat → Nat} {a : Nat} {D E : Nat → Nat} (ht : Bij n t) (hs : Bij n s) (ha : a < n) (h : IsDist n t s a D) (e : Lip n t s a E) : ∀ x, x < n → E x ≤ D x := by
  have key : ∀ m x, x < n → D x = m → E x ≤ m := by
    intro m
    induction m with
    | zero =>
      intro x hx d
      have := e.orb ht ha (h.w0 x hx d)
      rw [this, e.zero]; exact Nat.le_refl _
    | succ m ih =>
      intro x hx d
      obtain ⟨y, hy, o, d2⟩ := h.w1 x m hx d
      have i := ih (s y) (hs.1 y hy) d2
      have j := e.edge y hy
      have k := e.orb ht hx o
      omega
  intro x hx
  exact key _ x hx rfl

/-- a renaming from one map to another one -/
structure Iso (n : Nat) (t s t' s' g : Nat → Nat) : Prop where
  bij : Bij n g
  et : ∀ x, x < n → t' (g x) = g (t x)
  es : ∀ x, x < n → s' (g x) = g (s x)

theorem Iso.symm {n : Nat} {t s t' s' g : Nat → Nat} (i : Iso n t s t' s' g) (ht : Bij n t) (hs : Bij n s) : Iso n t' s' t s (finv n g) := by
  refine ⟨finv_bij i.bij, fun x hx => ?_, fun x hx => ?_⟩
  · obtain ⟨a, ha, rfl⟩ := surj i.bij x hx
    rw [finv_left i.bij ha, i.et a ha, finv_left i.bij (ht.1 a ha)]
  · obtain ⟨a, ha, rfl⟩ := surj i.bij x hx
    rw [finv_left i.bij ha, i.es a ha, finv_left i.bij (hs.1 a ha)]
end Go.Proofs.Ytknkefjleinkkaa.Sm
namespace Go.Proofs.Ytknkefjleinkkaa.R
open Go.RowKit Go.Proofs.YtknkefjleinkkaaW.PrintWords Go.Proofs.YtknkefjleinkkaaW.PrintLast Go.Proofs.YtknkefjleinkkaaW.PrintMore Go.Proofs.Ytknkefjleinkkaa.F Go.Proofs.Ytknkefjleinkkaa.Sm
theorem Ev.pos {α : Type} {c : Prop} [Decidable c] {A B : Nat → Option α} {r : α} (h : c) (k : Ev A r) : Ev (fun n => if c then A n else B n) r := by
  simp only [if_pos h]; exact k

theorem Ev.neg {α : Type} {c : Prop} [Decidable c] {A B : Nat → Option α} {r : α} (h : ¬ c) (k : Ev B r) : Ev (fun n => if c then A n else B n) r := by
  simp only [if_neg h]; exact k

theorem Ev.bind1 {α β : Type} {g : Nat → Option α} {f : Nat → α → Option β} {a : α} {r : β} (h : Ev g a) (k : Ev (fun n => f n a) r) : Ev (fun n => (g n).bind (f n)) r := Ev.bind h k

theorem Ev.some1 {α β : Type} {f : Nat → α → Option β} {a : α} {r : β} (k : Ev (fun n => f n a) r) : Ev (fun n => (some a).bind (f n)) r := k

theorem wrap_nat {i : Nat} (h : i < 9223372036854775807) : wrap64 ((i : Int) + 1) = ((i + 1 : Nat) : Int) := by unfold wrap64; omega

theorem wrap_in {n : Int} (h1 : -9223372036854775808 ≤ n) (h2 : n ≤ 9223372036854775807) : wrap64 n = n := by unfold wrap64; omega

theorem rd_get {l : List Int} {i : Nat} (h : i < l.length) : rd l (i : Int) = l[i] := by
  unfold rd; simp [h]

theorem rd_pm {n : Nat} {f : Nat → Nat} {i : Nat} (h : i < n) : rd (pm n f) (i : Int) = (f i : Int) := by
  unfold rd; exact pm_getD n f i h

/-- a list that is a permutation -/
def IsPerm (n : Nat) (l : List Int) (f : Nat → Nat) : Prop := 1 ≤ n ∧ n ≤ 12 ∧ Bij n f ∧ l = pm n f

theorem valid_iff (l : List Int) : impl_PermValid.validB l = true ↔ ∃ f, IsPerm l.length l f := by
  unfold impl_PermValid.validB
  simp only [Bool.and_eq_true, decide_eq_true_eq, List.all_eq_true, List.mem_range]
  constructor
  · rintro ⟨⟨h1, h2⟩, h3⟩
    have h3' : ∀ i, i < l.length → 0 ≤ rd l i ∧ rd l i < l.length ∧ ∀ j, j < i → rd l j ≠ rd l i := by
      intro i hi
      have := h3 i hi
      unfold impl_PermValid.okAt at this
      simp only [Bool.and_eq_true, decide_eq_true_eq, Bool.not_eq_true', List.contains_eq_mem, decide_eq_false_iff_not] at this
      refine ⟨this.1.1, this.1.2, fun j hj e => this.2 ?_⟩
      rw [← e, rd_get (show j < l.length by omega)]
      rw [List.mem_iff_getElem]
      exact ⟨j, by simp; omega, by simp⟩
    refine ⟨fun i => (rd l i).toNat, h1, h2, ⟨fun i hi => by have := h3' i hi; show (rd l i).toNat < _; omega, fun i j hi hj e => ?_⟩, ?_⟩
    · have a := h3' i hi
      have b := h3' j hj
      have e' : (rd l i).toNat = (rd l j).toNat := e
      rcases Nat.lt_trichotomy i j with c | c | c
      · exact (b.2.2 i c (by omega)).elim
      · exact c
      · exact (a.2.2 j c (by omega)).elim
    · refine eq_pm _ _ _ rfl fun i hi => ?_
      have := h3' i hi
      show l.getD i 0 = (((rd l i).toNat : Nat) : Int)
      have e : l.getD i 0 = rd l i := rfl
      omega
  · rintro ⟨f, h1, h2, hf, e⟩
    refine ⟨⟨h1, h2⟩, fun i hi => ?_⟩
    have r : ∀ j, j < l.length → rd l j = (f j : Int) := fun j hj => by
      have := rd_pm (n := l.length) (f := f) hj
      rwa [← e] at this
    unfold impl_PermValid.okAt
    simp only [Bool.and_eq_true, decide_eq_true_eq, Bool.not_eq_true', List.contains_eq_mem, decide_eq_false_iff_not]
    refine ⟨⟨by rw [r i hi]; omega, by rw [r i hi]; have := hf.1 i hi; omega⟩, fun hm => ?_⟩
    rw [List.mem_iff_getElem] at hm
    obtain ⟨j, hj, ej⟩ := hm
    have hj' : j < i := by simp at hj; omega
    have : l[j]'(by omega) = rd l i := by simpa using ej
    rw [← rd_get (show j < l.length by omega), r i hi, r j (by omega)] at this
    have := hf.2 j i (by omega) hi (by omega)
    omega

theorem implValid_ev (l : List Int) : Ev (fun _ => impl_PermValid.f l) (impl_PermValid.validB l) := Ev.now _

/-- the reference's look: up to i all is well -/
theorem specValid_ev (l : List Int) (hl : l.length ≤ 4294967296) : Ev (fun k => spec_PermValid.f k l) (impl_PermValid.validB l) := by
  have e0 : ∀ (a b c : Int), spec_l6In.f a b c = some (decide (b ≤ a) && decide (a ≤ c)) := by
    intro a b c
    unfold spec_l6In.f
    by_cases h : b ≤ a
    · rw [if_pos h]; simp [h]
    · rw [if_neg h]; simp [h]
  -- the inner loop
  have inner : ∀ d i j, i < l.length → j + d = i → (∀ m, m < j → rd l m ≠ rd l i) → ∀ r, ((∀ m, m < i → rd l m ≠ rd l i) → Ev (fun k => spec_PermValid.l0 k l ((i + 1 : Nat) : Int)) r) → ((∃ m, m < i ∧ rd l m = rd l i) → r = false) → Ev (fun k => spec_PermValid.l1 k l (i : Int) (j : Int)) r := by
    intro d
    induction d with
    | zero =>
      intro i j hi hj hm r h1 h2
      refine Ev.step (f := fun k => spec_PermValid.l0 k l ((i + 1 : Nat) : Int)) (fun k => by rw [spec_PermValid.l1, if_neg (by omega), wrap_nat (by omega)]) ?_
      exact h1 (fun m hmi => hm m (by omega))
    | succ d ih =>
      intro i j hi hj hm r h1 h2
      by_cases c : rd l (j : Int) = rd l (i : Int)
      · have := h2 ⟨j, by omega, c⟩
        subst this
        refine Ev.step (f := fun k => some false) (fun k => by
          rw [spec_PermValid.l1, if_pos (by omega), if_pos (by omega), if_pos (by omega), if_pos (by omega), if_pos (by omega), if_pos c]) (Ev.now _)
      · refine Ev.step (f := fun k => spec_PermValid.l1 k l (i : Int) ((j + 1 : Nat) : Int)) (fun k => by
          rw [spec_PermValid.l1, if_pos (by omega), if_pos (by omega), if_pos (by omega), if_pos (by omega), if_pos (by omega), if_neg c, wrap_nat (by omega)]) ?_
        refine ih i (j + 1) hi (by omega) (fun m hm' => ?_) r h1 h2
        by_cases e : m = j
        · subst e; exact c
        · exact hm m (by omega)
  have outer : ∀ d i, i + d = l.length → (∀ m, m < i → impl_PermValid.okAt l m = true) → Ev (fun k => spec_PermValid.l0 k l (i : Int)) (impl_PermValid.validB l) := by
    intro d
    induction d with
    | zero =>
      intro i hi hm
      have e : impl_PermValid.validB l = (decide ((1 : Int) ≤ (l.length : Int)) && decide ((l.length : Int) ≤ 12)) := by
        unfold impl_PermValid.validB
        have : (List.range l.length).all (impl_PermValid.okAt l) = true := by
          rw [List.all_eq_true]; intro m hm'; exact hm m (by have := List.mem_range.1 hm'; omega)
        rw [this]
        rw [Bool.and_true]
        congr 1
        · simp; omega
        · simp; omega
      refine Ev.step (f := fun _ => some (impl_PermValid.validB l)) (fun k => by rw [spec_PermValid.l0, if_neg (by omega), e0, e]; rfl) (Ev.now _)
    | succ d ih =>
      intro i hi hm
      have hil : i < l.length := by omega
      have fail : impl_PermValid.okAt l i = false → impl_PermValid.validB l = false := impl_PermValid.valid_fail l i hil
      have ew : wrap64 ((l.length : Int) - 1) = (l.length : Int) - 1 := wrap_in (by omega) (by omega)
      by_cases c : 0 ≤ rd l (i : Int) ∧ rd l (i : Int) ≤ (l.length : Int) - 1
      · refine Ev.step (f := fun k => spec_PermValid.l1 k l (i : Int) ((0 : Nat) : Int)) (fun k => by
          rw [spec_PermValid.l0, if_pos (by omega), if_pos (by omega), e0, ew]
          simp only [Option.bind_some]
          rw [if_pos (by simp [c.1, c.2])]; rfl) ?_
        refine inner i i 0 hil (by omega) (fun m hm' => absurd hm' (by omega)) _ (fun hd => ?_) (fun hd => ?_)
        · refine ih (i + 1) (by omega) (fun m hm' => ?_)
          by_cases e : m = i
          · subst e
            unfold impl_PermValid.okAt
            simp only [Bool.and_eq_true, decide_eq_true_eq, Bool.not_eq_true', List.contains_eq_mem, decide_eq_false_iff_not]
            refine ⟨⟨c.1, by omega⟩, fun hx => ?_⟩
            rw [List.mem_iff_getElem] at hx
            obtain ⟨j, hj, ej⟩ := hx
            have hj' : j < m := by simp at hj; omega
            have : l[j]'(by omega) = rd l m := by simpa using ej
            rw [← rd_get (show j < l.length by omega)] at this
            exact hd j hj' this
          · exact hm m (by omega)
        · obtain ⟨m, hmi, em⟩ := hd
          apply fail
          unfold impl_PermValid.okAt
          have : (l.take i).contains (rd l i) = true := by
            rw [List.contains_eq_mem, decide_eq_true_eq, ← em, rd_get (show m < l.length by omega), List.mem_iff_getElem]
            exact ⟨m, by simp; omega, by simp⟩
          simp only [this, Bool.not_true, Bool.and_false]
      · have : impl_PermValid.validB l = false := by
          apply fail
          unfold impl_PermValid.okAt
          by_cases c1 : 0 ≤ rd l (i : Int)
          · have : ¬ rd l (i : Int) < l.length := by omega
            simp [this]
          · simp [c1]
        rw [this]
        refine Ev.step (f := fun k => some false) (fun k => by
          rw [spec_PermValid.l0, if_pos (by omega), if_pos (by omega), e0, ew]
          simp only [Option.bind_some]
          rw [if_neg]
          simp only [Bool.and_eq_true, decide_eq_true_eq]
          exact c) (Ev.now _)
  unfold spec_PermValid.f
  exact outer l.length 0 (by omega) (fun m hm => absurd hm (by omega))

theorem rd_set {s : List Int} {a b : Nat} {v : Int} (h : a < s.length) : rd (s.set a v) (b : Int) = if a = b then v else rd s (b : Int) := by
  unfold rd
  simp only [Int.toNat_natCast, List.getD_eq_getElem?_getD, List.getElem?_set]
  by_cases e : a = b
  · subst e; simp [h]
  · simp [e]

theorem eq_pm' {n : Nat} {f : Nat → Nat} {l : List Int} (hl : l.length = n) (h : ∀ i, i < n → rd l (i : Int) = (f i : Int)) : l = pm n f :=
  eq_pm n f l hl fun i hi => by have := h i hi; unfold rd at this; simpa using this

theorem sameInts_loop (a b : List Int) (hl : a.length = b.length) (hb : a.length ≤ 4294967296) : ∀ d i, i + d = a.length → Ev (fun k => laws_sameInts.l0 k a b (i : Int)) (decide (a.drop i = b.drop i)) := by
  intro d
  induction d with
  | zero =>
    intro i hi
    refine Ev.step (f := fun _ => some true) (fun k => by rw [laws_sameInts.l0, if_neg (by omega)]) ?_
    rw [List.drop_of_length_le (by omega), List.drop_of_length_le (by omega)]
    exact Ev.now _
  | succ d ih =>
    intro i hi
    have ha : i < a.length := by omega
    have hb' : i < b.length := by omega
    rw [List.drop_eq_getElem_cons ha, List.drop_eq_getElem_cons hb']
    by_cases c : a[i] = b[i]
    · refine Ev.step (f := fun k => laws_sameInts.l0 k a b ((i + 1 : Nat) : Int)) (fun k => by
        rw [laws_sameInts.l0, if_pos (by omega), if_pos (by omega), if_pos (by omega), rd_get ha, rd_get hb', if_pos c, wrap_nat (by omega)]) ?_
      have e : decide (a[i] :: a.drop (i + 1) = b[i] :: b.drop (i + 1)) = decide (a.drop (i + 1) = b.drop (i + 1)) := by
        simp only [List.cons.injEq, c, true_and]
      rw [e]
      exact ih (i + 1) (by omega)
    · refine Ev.step (f := fun k => some false) (fun k => by
        rw [laws_sameInts.l0, if_pos (by omega), if_pos (by omega), if_pos (by omega), rd_get ha, rd_get hb', if_neg c]) ?_
      have : decide (a[i] :: a.drop (i + 1) = b[i] :: b.drop (i + 1)) = false := by
        simp only [List.cons.injEq, c, false_and, decide_false]
      rw [this]
      exact Ev.now _

theorem sameInts_ev {a b : List Int} (hb : a.length ≤ 4294967296) : Ev (fun k => laws_sameInts.f k a b) (decide (a = b)) := by
  unfold laws_sameInts.f
  by_cases c : a.length = b.length
  · refine Ev.pos (by omega) ?_
    exact sameInts_loop a b c hb a.length 0 (by omega)
  · have : decide (a = b) = false := by simp; intro e; exact c (by rw [e])
    rw [this]
    exact Ev.neg (by omega) (Ev.now _)

theorem mul_ev {n : Nat} {f g : Nat → Nat} (hn : n ≤ 1000) (hf : ∀ i, i < n → f i < n) : Ev (fun k => impl_mul.f k (pm n f) (pm n g)) (pm n fun i => g (f i)) := by
  have loop : ∀ d i (s : List Int), i + d = n → s.length = n → (∀ j, j < i → rd s (j : Int) = (g (f j) : Int)) → Ev (fun k => impl_mul.l0 k (pm n g) s (pm n f) (n : Int) (i : Int)) (pm n fun i => g (f i)) := by
    intro d
    induction d with
    | zero =>
      intro i s hi hs h
      refine Ev.step (f := fun _ => some s) (fun k => by rw [impl_mul.l0, if_neg (by omega)]) ?_
      rw [eq_pm' (f := fun i => g (f i)) hs (fun j hj => h j (by omega))]
      exact Ev.now _
    | succ d ih =>
      intro i s hi hs h
      have hfi := hf i (by omega)
      refine Ev.step (f := fun k => impl_mul.l0 k (pm n g) (s.set i (g (f i) : Int)) (pm n f) (n : Int) ((i + 1 : Nat) : Int)) (fun k => by
        rw [impl_mul.l0, if_pos (by omega), if_pos (by omega), if_pos (by rw [pm_length]; omega), rd_pm (by omega), if_pos (by omega), if_pos (by rw [pm_length]; omega), if_pos (by omega), wrap_nat (by omega), rd_pm hfi]; rfl) ?_
      refine ih (i + 1) _ (by omega) (by simp [hs]) (fun j hj => ?_)
      rw [rd_set (by omega)]
      by_cases e : i = j
      · rw [if_pos e, e]
      · rw [if_neg e]; exact h j (by omega)
  unfold impl_mul.f
  simp only [pm_length]
  refine Ev.pos (by omega) (Ev.pos (by omega) ?_)
  have := loop n 0 (List.replicate n 0) (by omega) (by simp) (fun j hj => absurd hj (by omega))
  simpa using this

theorem l1Mul_ev {n : Nat} {f g : Nat → Nat} (hn : n ≤ 1000) (hf : ∀ i, i < n → f i < n) : Ev (fun k => spec_l1Mul.f k (pm n f) (pm n g)) (pm n fun i => g (f i)) := by
  have loop : ∀ d i, i + d = n → Ev (fun k => spec_l1Mul.l0 k (pm n f) (pm n g) (pm i fun i => g (f i)) (i : Int)) (pm n fun i => g (f i)) := by
    intro d
    induction d with
    | zero =>
      intro i hi
      have e : i = n := by omega
      subst e
      exact Ev.step (f := fun _ => some (pm i fun i => g (f i))) (fun k => by rw [spec_l1Mul.l0, if_neg (by rw [pm_length]; omega)]) (Ev.now _)
    | succ d ih =>
      intro i hi
      have hfi := hf i (by omega)
      refine Ev.step (f := fun k => spec_l1Mul.l0 k (pm n f) (pm n g) (pm (i + 1) fun i => g (f i)) ((i + 1 : Nat) : Int)) (fun k => by
        rw [spec_l1Mul.l0, if_pos (by rw [pm_length]; omega), if_pos (by omega), rd_pm (by omega), if_pos (by omega), if_pos (by rw [pm_length]; omega), if_pos (by rw [pm_length]; omega), wrap_nat (by omega), rd_pm hfi]
        simp [pm, List.range_succ]) (ih (i + 1) (by omega))
  unfold spec_l1Mul.f
  exact loop n 0 (by omega)

theorem back_end {n : Nat} {f : Nat → Nat} (hf : Bij n f) {s : List Int} (hs : s.length = n) (h : ∀ j, j < n → rd s (f j : Int) = (j : Int)) : s = pm n (finv n f) := by
  refine eq_pm' hs fun y hy => ?_
  obtain ⟨h1, h2⟩ := finv_spec hf hy
  have := h _ h1
  rwa [h2] at this

theorem back_step {n : Nat} {f : Nat → Nat} (hf : Bij n f) {s : List Int} (hs : s.length = n) {i : Nat} (hi : i < n) (h : ∀ j, j < i → rd s (f j : Int) = (j : Int)) : ∀ j, j < i + 1 → rd (s.set (f i) (i : Int)) (f j : Int) = (j : Int) := by
  intro j hj
  rw [rd_set (by have := hf.1 i hi; omega)]
  by_cases e : i = j
  · subst e; rw [if_pos rfl]
  · rw [if_neg (fun d => e (hf.2 i j hi (by omega) d))]; exact h j (by omega)

theorem back_ev {n : Nat} {f : Nat → Nat} (hn : n ≤ 1000) (hf : Bij n f) : Ev (fun k => impl_back.f k (pm n f)) (pm n (finv n f)) := by
  have loop : ∀ d i (s : List Int), i + d = n → s.length = n → (∀ j, j < i → rd s (f j : Int) = (j : Int)) → Ev (fun k => impl_back.l0 k s (pm n f) (n : Int) (i : Int)) (pm n (finv n f)) := by
    intro d
    induction d with
    | zero =>
      intro i s hi hs h
      refine Ev.step (f := fun _ => some s) (fun k => by rw [impl_back.l0, if_neg (by omega)]) ?_
      rw [back_end hf hs (fun j hj => h j (by omega))]
      exact Ev.now _
    | succ d ih =>
      intro i s hi hs h
      have hfi := hf.1 i (by omega)
      refine Ev.step (f := fun k => impl_back.l0 k (s.set (f i) (i : Int)) (pm n f) (n : Int) ((i + 1 : Nat) : Int)) (fun k => by
        rw [impl_back.l0, if_pos (by omega), if_pos (by omega), if_pos (by rw [pm_length]; omega), rd_pm (by omega), if_pos (by omega), if_pos (by omega), wrap_nat (by omega)]; rfl) ?_
      exact ih (i + 1) _ (by omega) (by simp [hs]) (back_step hf hs (by omega) h)
  unfold impl_back.f
  simp only [pm_length]
  refine Ev.pos (by omega) (Ev.pos (by omega) ?_)
  have := loop n 0 (List.replicate n 0) (by omega) (by simp) (fun j hj => absurd hj (by omega))
  simpa using this

theorem l1Back_ev {n : Nat} {f : Nat → Nat} (hn : n ≤ 1000) (hf : Bij n f) : Ev (fun k => spec_l1Back.f k (pm n f)) (pm n (finv n f)) := by
  have loop : ∀ d i (s : List Int), i + d = n → s.length = n → (∀ j, j < i → rd s (f j : Int) = (j : Int)) → Ev (fun k => spec_l1Back.l0 k (pm n f) s (i : Int)) (pm n (finv n f)) := by
    intro d
    induction d with
    | zero =>
      intro i s hi hs h
      refine Ev.step (f := fun _ => some s) (fun k => by rw [spec_l1Back.l0, if_neg (by rw [pm_length]; omega)]) ?_
      rw [back_end hf hs (fun j hj => h j (by omega))]
      exact Ev.now _
    | succ d ih =>
      intro i s hi hs h
      have hfi := hf.1 i (by omega)
      refine Ev.step (f := fun k => spec_l1Back.l0 k (pm n f) (s.set (f i) (i : Int)) ((i + 1 : Nat) : Int)) (fun k => by
        rw [spec_l1Back.l0, if_pos (by rw [pm_length]; omega), if_pos (by omega), rd_pm (by omega), if_pos (by omega), if_pos (by omega), wrap_nat (by omega)]; rfl) ?_
      exact ih (i + 1) _ (by omega) (by simp [hs]) (back_step hf hs (by omega) h)
  unfold spec_l1Back.f
  simp only [pm_length]
  refine Ev.pos (by omega) (Ev.pos (by omega) ?_)
  have := loop n 0 (List.replicate n 0) (by omega) (by simp) (fun j hj => absurd hj (by omega))
  simpa using this

/-- two lists that are permutations of as many points -/
def both (a b : List Int) : Bool := impl_PermValid.validB a && impl_PermValid.validB b && decide (a.length = b.length)

theorem both_iff (a b : List Int) : both a b = true ↔ ∃ n f g, IsPerm n a f ∧ IsPerm n b g := by
  unfold both
  simp only [Bool.and_eq_true, decide_eq_true_eq, valid_iff]
  constructor
  · rintro ⟨⟨⟨f, hf⟩, g, hg⟩, e⟩
    rw [← e] at hg
    exact ⟨_, f, g, hf, hg⟩
  · rintro ⟨n, f, g, hf, hg⟩
    have e1 : a.length = n := by rw [hf.2.2.2, pm_length]
    have e2 : b.length = n := by rw [hg.2.2.2, pm_length]
    rw [e1, e2]
    exact ⟨⟨⟨f, hf⟩, g, hg⟩, rfl⟩

theorem l1Both_ev {a b : List Int} (ha : a.length ≤ 4294967296) (hb : b.length ≤ 4294967296) : Ev (fun k => spec_l1Both.f k a b) (both a b) := by
  unfold spec_l1Both.f both
  refine Ev.bind1 (specValid_ev a ha) ?_
  cases c : impl_PermValid.validB a with
  | false => exact Ev.neg (by simp) (Ev.now _)
  | true =>
    refine Ev.pos rfl (Ev.bind1 (specValid_ev b hb) ?_)
    cases d : impl_PermValid.validB b with
    | false => exact Ev.neg (by simp) (Ev.now _)
    | true =>
      refine Ev.pos rfl ?_
      have : ((a.length : Int) == (b.length : Int)) = (true && true && decide (a.length = b.length)) := by
        by_cases e : a.length = b.length
        · simp [e]
        · have : ¬ (a.length : Int) = (b.length : Int) := by omega
          simp [e, this]
      rw [this]
      exact Ev.now _

/-- the product, or no answer -/
noncomputable def mulR (a b : List Int) : List Int × Bool := if both a b = true then (a.map (fun x => rd b x), true) else ([], false)

theorem pm_map {n : Nat} {f g : Nat → Nat} (hf : ∀ i, i < n → f i < n) : (pm n f).map (fun x => rd (pm n g) x) = pm n fun i => g (f i) := by
  unfold pm
  rw [List.map_map]
  apply List.map_congr_left
  intro i hi
  show rd (pm n g) ((f i : Nat) : Int) = _
  rw [rd_pm (hf i (by simpa using hi))]

theorem implMul_ev (a b : List Int) : Ev (fun k => impl_PermMul.f k a b) (mulR a b) := by
  unfold impl_PermMul.f mulR
  refine Ev.bind1 (implValid_ev a) ?_
  by_cases c : both a b = true
  · rw [if_pos c]
    obtain ⟨n, f, g, hf, hg⟩ := (both_iff a b).1 c
    have c1 : impl_PermValid.validB a = true := by unfold both at c; simp only [Bool.and_eq_true] at c; exact c.1.1
    have c2 : impl_PermValid.validB b = true := by unfold both at c; simp only [Bool.and_eq_true] at c; exact c.1.2
    have c3 : a.length = b.length := by unfold both at c; simp only [Bool.and_eq_true, decide_eq_true_eq] at c; exact c.2
    refine Ev.pos c1 (Ev.bind1 (implValid_ev b) (Ev.pos c2 (Ev.pos (by omega) ?_)))
    rw [hf.2.2.2, hg.2.2.2, pm_map hf.2.2.1.1]
    exact Ev.bind1 (mul_ev (by have := hf.2.1; omega) hf.2.2.1.1) (Ev.now _)
  · rw [if_neg c]
    by_cases c1 : impl_PermValid.validB a = true
    · refine Ev.pos c1 (Ev.bind1 (implValid_ev b) ?_)
      by_cases c2 : impl_PermValid.validB b = true
      · refine Ev.pos c2 (Ev.neg (fun e => c ?_) (Ev.now _))
        unfold both
        have : a.length = b.length := by omega
        simp [c1, c2, this]
      · exact Ev.neg c2 (Ev.now _)
    · exact Ev.neg c1 (Ev.now _)

/-- the way back, or no answer -/
noncomputable def backR (a : List Int) : List Int × Bool := if impl_PermValid.validB a = true then (pm a.length (finv a.length fun i => (rd a (i : Int)).toNat), true) else ([], false)

theorem finv_congr {n : Nat} {f g : Nat → Nat} (h : ∀ i, i < n → f i = g i) : finv n f = finv n g := by
  funext y
  unfold finv
  congr 1
  have : ∀ l : List Nat, (∀ i, i ∈ l → i < n) → l.find? (fun i => f i == y) = l.find? (fun i => g i == y) := by
    intro l
    induction l with
    | nil => intro _; rfl
    | cons a l ih => intro hl; simp only [List.find?_cons]; rw [h a (hl a (by simp)), ih (fun i hi => hl i (by simp [hi]))]
  exact this _ (fun i hi => by simpa using hi)

theorem backR_perm {n : Nat} {a : List Int} {f : Nat → Nat} (h : IsPerm n a f) : backR a = (pm n (finv n f), true) := by
  have e1 : a.length = n := by rw [h.2.2.2, pm_length]
  have v : impl_PermValid.validB a = true := (valid_iff a).2 ⟨f, by rw [e1]; exact h⟩
  unfold backR
  rw [if_pos v, e1]
  congr 2
  apply finv_congr
  intro i hi
  rw [h.2.2.2, rd_pm hi]; simp

theorem implBack_ev (a : List Int) : Ev (fun k => impl_PermBack.f k a) (backR a) := by
  unfold impl_PermBack.f
  refine Ev.bind1 (implValid_ev a) ?_
  by_cases c : impl_PermValid.validB a = true
  · obtain ⟨f, hf⟩ := (valid_iff a).1 c
    rw [backR_perm hf]
    refine Ev.pos c ?_
    have e := hf.2.2.2
    have : Ev (fun k => impl_back.f k a) (pm a.length (finv a.length f)) := by
      have := back_ev (n := a.length) (f := f) (by have := hf.2.1; omega) hf.2.2.1
      rwa [← e] at this
    exact Ev.bind1 this (Ev.now _)
  · unfold backR
    rw [if_neg c]
    exact Ev.neg c (Ev.now _)

theorem isPerm_len {n : Nat} {a : List Int} {f : Nat → Nat} (h : IsPerm n a f) : a.length = n := by rw [h.2.2.2, pm_length]

noncomputable def conjR (a b : List Int) : List Int × Bool := if both a b = true then (((backR b).1.map (fun x => rd a x)).map (fun x => rd b x), true) else ([], false)

theorem conjR_perm {n : Nat} {a b : List Int} {f g : Nat → Nat} (h : IsPerm n a f) (k : IsPerm n b g) : conjR a b = (pm n (conj n g f), true) := by
  have c : both a b = true := (both_iff a b).2 ⟨n, f, g, h, k⟩
  unfold conjR
  rw [if_pos c, backR_perm k]
  show (((pm n (finv n g)).map fun x => rd a x).map (fun x => rd b x), true) = _
  rw [h.2.2.2, pm_map (finv_bij k.2.2.1).1, k.2.2.2, pm_map (comp_bij (finv_bij k.2.2.1) h.2.2.1).1]
  rfl

theorem specConj_ev {a b : List Int} (ha : a.length ≤ 4294967296) (hb : b.length ≤ 4294967296) : Ev (fun k => spec_PermConj.f k a b) (conjR a b) := by
  unfold spec_PermConj.f
  refine Ev.bind1 (l1Both_ev ha hb) ?_
  by_cases c : both a b = true
  · refine Ev.pos c ?_
    obtain ⟨n, f, g, hf, hg⟩ := (both_iff a b).1 c
    rw [conjR_perm hf hg]
    have h12 := hf.2.1
    rw [hf.2.2.2, hg.2.2.2]
    exact Ev.bind1 (l1Back_ev (by omega) hg.2.2.1) (Ev.bind1 (l1Mul_ev (by omega) (finv_bij hg.2.2.1).1) (Ev.bind1 (l1Mul_ev (by omega) (comp_bij (finv_bij hg.2.2.1) hf.2.2.1).1) (Ev.now _)))
  · unfold conjR
    rw [if_neg c]
    exact Ev.neg c (Ev.now _)

theorem implConj_ev (a b : List Int) : Ev (fun k => impl_PermConj.f k a b) (conjR a b) := by
  unfold impl_PermConj.f
  refine Ev.bind1 (implValid_ev a) ?_
  have no : both a b ≠ true → Ev (fun k => impl_PermConj.j0 k a b true) (conjR a b) := fun c => by
    unfold conjR
    rw [if_neg c]
    exact Ev.step (f := fun _ => some ([], false)) (fun k => by rw [impl_PermConj.j0, if_pos rfl]) (Ev.now _)
  by_cases c1 : impl_PermValid.validB a = true
  · refine Ev.pos c1 (Ev.bind1 (implValid_ev b) ?_)
    by_cases c2 : impl_PermValid.validB b = true
    · refine Ev.pos c2 ?_
      by_cases c3 : a.length = b.length
      · have c : both a b = true := by unfold both; simp [c1, c2, c3]
        obtain ⟨n, f, g, hf, hg⟩ := (both_iff a b).1 c
        rw [conjR_perm hf hg]
        have h12 := hf.2.1
        have e : ((a.length : Int) != (b.length : Int)) = false := by simp [c3]
        rw [e]
        refine Ev.step (fun k => by rw [impl_PermConj.j0]) ?_
        refine Ev.neg (by simp) ?_
        rw [hf.2.2.2, hg.2.2.2]
        exact Ev.bind1 (back_ev (by omega) hg.2.2.1) (Ev.bind1 (mul_ev (by omega) (finv_bij hg.2.2.1).1) (Ev.bind1 (mul_ev (by omega) (comp_bij (finv_bij hg.2.2.1) hf.2.2.1).1) (Ev.now _)))
      · have e : ((a.length : Int) != (b.length : Int)) = true := by
          have : ¬ (a.length : Int) = (b.length : Int) := by omega
          simp [this]
        rw [e]
        exact no (by unfold both; simp [c3])
    · exact Ev.neg c2 (no (by unfold both; simp [c2]))
  · exact Ev.neg c1 (no (by unfold both; simp [c1]))

theorem xor_i64_nat (a b : Nat) (ha : a < 9223372036854775808) (hb : b < 9223372036854775808) : Go.bits .xor .i64 (a : Int) (b : Int) = ((a ^^^ b : Nat) : Int) := by
  have hx : a ^^^ b < 2 ^ 63 := Nat.xor_lt_two_pow (by omega) (by omega)
  have h1 : (BitVec.ofInt 64 (a : Int)).toNat = a := by
    rw [BitVec.ofInt_natCast, BitVec.toNat_ofNat]; exact Nat.mod_eq_of_lt (by omega)
  have h2 : (BitVec.ofInt 64 (b : Int)).toNat = b := by
    rw [BitVec.ofInt_natCast, BitVec.toNat_ofNat]; exact Nat.mod_eq_of_lt (by omega)
  show IntKind.i64.wrap ((BitVec.ofInt 64 (a : Int) ^^^ BitVec.ofInt 64 (b : Int)).toNat : Int) = _
  rw [BitVec.toNat_xor, h1, h2]
  simp [IntKind.wrap, IntKind.bits, IntKind.signed]
  omega

theorem xor_i64_pos {a b : Int} (h1 : 0 ≤ a) (h2 : a < 9223372036854775808) (h3 : 0 ≤ b) (h4 : b < 9223372036854775808) : 0 ≤ Go.bits .xor .i64 a b := by
  obtain ⟨m, rfl⟩ : ∃ m : Nat, a = m := ⟨a.toNat, by omega⟩
  obtain ⟨k, rfl⟩ : ∃ k : Nat, b = k := ⟨b.toNat, by omega⟩
  rw [xor_i64_nat _ _ (by omega) (by omega)]
  omega

/-- a code's bytes -/
def Bytes (s : List Int) : Prop := s.length ≤ 2000 ∧ ∀ x, x ∈ s → 0 ≤ x ∧ x ≤ 255

theorem Bytes.rd {s : List Int} (h : Bytes s) (i : Int) : 0 ≤ rd s i ∧ rd s i ≤ 255 := by
  unfold Go.Proofs.YtknkefjleinkkaaW.PrintWords.rd
  rw [List.getD_eq_getElem?_getD]
  cases e : s[i.toNat]? with
  | none => simp
  | some x => exact h.2 x (List.mem_of_getElem? e)

theorem tmod_in {a n : Int} (ha : 0 ≤ a) (hn : 1 ≤ n) : 0 ≤ Int.tmod a n ∧ Int.tmod a n < n := by
  rw [Int.tmod_eq_emod_of_nonneg ha]
  exact ⟨Int.emod_nonneg _ (by omega), Int.emod_lt_of_pos _ (by omega)⟩

theorem pick_ev {s : List Int} (hs : Bytes s) {p n : Int} (h0 : 0 ≤ p) (h1 : p ≤ 1000000000) (hn : n ≤ 1000000000) :
    ∃ v, Ev (fun k => spec_l6Rd_pick.f k s p n) (v, p + 1) ∧ 0 ≤ v ∧ v ≤ 1000000000 ∧ (1 ≤ n → v < n) := by
  have w1 : wrap64 (p + 1) = p + 1 := wrap_in (by omega) (by omega)
  have w2 : wrap64 (p + 1 - 1) = p := by rw [wrap_in (by omega) (by omega)]; omega
  unfold spec_l6Rd_pick.f
  by_cases c : n < 1
  · refine ⟨0, Ev.pos c ?_, by omega, by omega, fun e => by omega⟩
    rw [w1]
    exact Ev.step (f := fun _ => some (0, p + 1)) (fun k => by rw [spec_l6Rd_pick.j0, if_pos rfl]) (Ev.now _)
  · by_cases d : s.length = 0
    · refine ⟨0, Ev.neg c ?_, by omega, by omega, fun e => by omega⟩
      rw [w1]
      have e : ((s.length : Int) == 0) = true := by simp [d]
      rw [e]
      exact Ev.step (f := fun _ => some (0, p + 1)) (fun k => by rw [spec_l6Rd_pick.j0, if_pos rfl]) (Ev.now _)
    · have e : ((s.length : Int) == 0) = false := by
        exact beq_eq_false_iff_ne.mpr (by omega)
      have hl := hs.1
      by_cases f : p < s.length
      · have r := hs.rd p
        have t := tmod_in (a := rd s p) (n := n) r.1 (by omega)
        refine ⟨Int.tmod (rd s p) n, Ev.neg c ?_, t.1, by omega, fun _ => t.2⟩
        rw [w1, e]
        refine Ev.step (f := fun _ => some (Int.tmod (rd s p) n, p + 1)) (fun k => by
          rw [spec_l6Rd_pick.j0, w2, if_neg (by simp), if_pos f, if_pos h0, if_neg (by omega), wrap_in (by omega) (by omega)]) (Ev.now _)
      · have m1 := tmod_in (a := p) (n := (s.length : Int)) h0 (by omega)
        have w3 : wrap64 (p * 7) = p * 7 := wrap_in (by omega) (by omega)
        have w4 : wrap64 (p * 7 + 3) = p * 7 + 3 := wrap_in (by omega) (by omega)
        have m2 := tmod_in (a := p * 7 + 3) (n := (s.length : Int)) (by omega) (by omega)
        obtain ⟨A, hA⟩ : ∃ A, A = rd s (Int.tmod p (s.length : Int)) := ⟨_, rfl⟩
        obtain ⟨B, hB⟩ : ∃ B, B = rd s (Int.tmod (p * 7 + 3) (s.length : Int)) := ⟨_, rfl⟩
        have a1 : 0 ≤ A ∧ A ≤ 255 := by rw [hA]; exact hs.rd _
        have b1 : 0 ≤ B ∧ B ≤ 255 := by rw [hB]; exact hs.rd _
        obtain ⟨D, hD⟩ : ∃ D, D = Int.tdiv p (s.length : Int) := ⟨_, rfl⟩
        have d1 : 0 ≤ D ∧ D ≤ p := by
          rw [hD, Int.tdiv_eq_ediv_of_nonneg h0]
          exact ⟨Int.ediv_nonneg h0 (by omega), Int.ediv_le_self _ h0⟩
        obtain ⟨X, hX⟩ : ∃ X, X = A * 131 + B * 1117 + p * 29 + D * 53 := ⟨_, rfl⟩
        have x1 : 0 ≤ X ∧ X ≤ 100000000000 := by omega
        have y1 : 0 ≤ Int.tdiv X 64 ∧ Int.tdiv X 64 ≤ X := by
          rw [Int.tdiv_eq_ediv_of_nonneg x1.1]; omega
        have z := xor_i64_pos (a := X) (b := Int.tdiv X 64) x1.1 (by omega) y1.1 (by omega)
        have t := tmod_in (n := n) z (by omega)
        refine ⟨Int.tmod (Go.bits .xor .i64 X (Int.tdiv X 64)) n, Ev.neg c ?_, t.1, by omega, fun _ => t.2⟩
        rw [w1, e]
        refine Ev.step (f := fun _ => some (Int.tmod (Go.bits .xor .i64 X (Int.tdiv X 64)) n, p + 1)) (fun k => by
          rw [spec_l6Rd_pick.j0, w2, if_neg (by simp), if_neg f, if_neg (by omega), if_pos m1.1, if_pos m1.2, w3, w4, if_pos m2.1, if_pos m2.2, if_neg (by omega), ← hA, ← hB, ← hD]
          rw [wrap_in (n := A) (by omega) (by omega), wrap_in (n := B) (by omega) (by omega), wrap_in (n := A * 131) (by omega) (by omega), wrap_in (n := B * 1117) (by omega) (by omega), wrap_in (n := A * 131 + B * 1117) (by omega) (by omega), wrap_in (n := p * 29) (by omega) (by omega), wrap_in (n := A * 131 + B * 1117 + p * 29) (by omega) (by omega), wrap_in (n := D) (by omega) (by omega), wrap_in (n := D * 53) (by omega) (by omega), wrap_in (n := A * 131 + B * 1117 + p * 29 + D * 53) (by omega) (by omega), ← hX, wrap_in (n := Int.tdiv X 64) (by omega) (by omega)]) (Ev.now _)

theorem open_ev {l : List Int} (hw : ∀ x ∈ l, (Lit.int .u8 x).wf = true) : ∃ s, Bytes s ∧ Ev (fun _ => spec_l6Open.f l) (s, 0) := by
  have hb : ∀ x, x ∈ l → 0 ≤ x ∧ x ≤ 255 := by
    intro x hx
    have := hw x hx
    simp [Lit.wf, IntKind.min, IntKind.max, IntKind.signed, IntKind.bits] at this
    omega
  unfold spec_l6Open.f
  by_cases c : (l.length : Int) > 2000
  · refine ⟨l.take 2000, ⟨by simp; omega, fun x hx => hb x (List.mem_of_mem_take hx)⟩, Ev.pos c (Ev.pos (by omega) (Ev.now _))⟩
  · exact ⟨l, ⟨by omega, hb⟩, Ev.neg c (Ev.now _)⟩

/-- f with the point n put into the cycle ahead of k -/
def ins (n k : Nat) (f : Nat → Nat) (x : Nat) : Nat := if x = n then f k else if x = k then n else f x

theorem ins_bij {n k : Nat} {f : Nat → Nat} (hf : Bij n f) (hk : k < n) : Bij (n + 1) (ins n k f) := by
  constructor
  · intro i hi
    unfold ins
    split
    · have := hf.1 k hk; omega
    · split
      · omega
      · have := hf.1 i (by omega); omega
  · intro i j hi hj e
    unfold ins at e
    have bi : i ≠ n → f i < n := fun h => hf.1 i (by omega)
    have bj : j ≠ n → f j < n := fun h => hf.1 j (by omega)
    have bk := hf.1 k hk
    by_cases a1 : i = n <;> by_cases a2 : j = n
    · omega
    · rw [if_pos a1, if_neg a2] at e
      by_cases a3 : j = k
      · rw [if_pos a3] at e; omega
      · rw [if_neg a3] at e; exact absurd (hf.2 k j hk (by omega) e) (fun h => a3 h.symm)
    · rw [if_neg a1, if_pos a2] at e
      by_cases a3 : i = k
      · rw [if_pos a3] at e; omega
      · rw [if_neg a3] at e; exact absurd (hf.2 i k (by omega) hk e) a3
    · rw [if_neg a1, if_neg a2] at e
      by_cases a3 : i = k <;> by_cases a4 : j = k
      · omega
      · rw [if_pos a3, if_neg a4] at e; have := bj a2; omega
      · rw [if_neg a3, if_pos a4] at e; have := bi a1; omega
      · rw [if_neg a3, if_neg a4] at e; exact hf.2 i j (by omega) (by omega) e

theorem add_bij {n : Nat} {f : Nat → Nat} (hf : Bij n f) : Bij (n + 1) (fun x => if x = n then n else f x) := by
  constructor
  · intro i hi
    show (if i = n then n else f i) < n + 1
    split
    · omega
    · have := hf.1 i (by omega); omega
  · intro i j hi hj e
    have e' : (if i = n then n else f i) = (if j = n then n else f j) := e
    by_cases a1 : i = n <;> by_cases a2 : j = n
    · omega
    · rw [if_pos a1, if_neg a2] at e'; have := hf.1 j (by omega); omega
    · rw [if_neg a1, if_pos a2] at e'; have := hf.1 i (by omega); omega
    · rw [if_neg a1, if_neg a2] at e'; exact hf.2 i j (by omega) (by omega) e'

theorem perm_ev {s : List Int} (hs : Bytes s) {p : Int} (h0 : 0 ≤ p) (h1 : p ≤ 1000000) {n : Nat} (hn : n ≤ 1000) : ∃ f, Bij n f ∧ Ev (fun k => spec_l91Perm.f k s p (n : Int)) (pm n f, p + n) := by
  have loop : ∀ d i (f : Nat → Nat), i + d = n → Bij i f → ∃ g, Bij n g ∧ Ev (fun k => spec_l91Perm.l0 k (n : Int) (pm i f) (i : Int) s (p + i)) (pm n g, p + n) := by
    intro d
    induction d with
    | zero =>
      intro i f hi hf
      have e : i = n := by omega
      subst e
      exact ⟨f, hf, Ev.step (f := fun _ => some (pm i f, p + i)) (fun k => by rw [spec_l91Perm.l0, if_neg (by omega)]) (Ev.now _)⟩
    | succ d ih =>
      intro i f hi hf
      obtain ⟨v, ev, v0, _, v1⟩ := pick_ev hs (p := p + i) (n := (i : Int) + 1) (by omega) (by omega) (by omega)
      have v2 := v1 (by omega)
      obtain ⟨k, rfl⟩ : ∃ k : Nat, v = k := ⟨v.toNat, by omega⟩
      have ep : p + (i : Int) + 1 = p + ((i + 1 : Nat) : Int) := by omega
      by_cases c : k = i
      · subst c
        obtain ⟨g, hg, eg⟩ := ih (k + 1) _ (by omega) (add_bij hf)
        refine ⟨g, hg, ?_⟩
        refine Ev.step (fun q => by rw [spec_l91Perm.l0]) (Ev.pos (by omega) ?_)
        rw [wrap_nat (by omega)]
        refine Ev.bind1 ev (Ev.pos rfl (Ev.pos (by rw [pm_length]; omega) ?_))
        have es : pm k f ++ [(k : Int)] = pm (k + 1) (fun x => if x = k then k else f x) := by
          unfold pm
          rw [List.range_succ, List.map_append]
          congr 1
          · apply List.map_congr_left
            intro x hx
            have : x < k := by simpa using hx
            show (f x : Int) = ((if x = k then k else f x : Nat) : Int)
            rw [if_neg (by omega)]
          · simp
        rw [es]
        show Ev (fun q => spec_l91Perm.l0 q _ _ _ s (p + (k : Int) + 1)) _
        rw [ep]
        exact eg
      · have hk : k < i := by omega
        obtain ⟨g, hg, eg⟩ := ih (i + 1) _ (by omega) (ins_bij hf hk)
        refine ⟨g, hg, ?_⟩
        refine Ev.step (fun q => by rw [spec_l91Perm.l0]) (Ev.pos (by omega) ?_)
        rw [wrap_nat (by omega)]
        refine Ev.bind1 ev (Ev.neg (by show ¬ (k : Int) = i; omega) (Ev.pos (by show 0 ≤ (k : Int); omega) (Ev.pos (by rw [pm_length]; show (k : Int) < i; omega) (Ev.pos (by rw [pm_length]; omega) ?_))))
        refine Ev.some1 (Ev.pos (by simp [pm_length]; omega) ?_)
        have es : (pm i f ++ [rd (pm i f) (k : Int)]).set ((k : Int)).toNat (i : Int) = pm (i + 1) (ins i k f) := by
          refine eq_pm' (by simp [pm_length]) fun x hx => ?_
          rw [Int.toNat_natCast, rd_set (by simp [pm_length]; omega), rd_pm hk]
          unfold ins
          by_cases a1 : k = x
          · rw [if_pos a1, if_neg (by omega), if_pos a1.symm]
          · rw [if_neg a1]
            by_cases a2 : x = i
            · rw [if_pos a2, a2]
              have : i < (pm i f ++ [(f k : Int)]).length := by simp [pm_length]
              rw [rd_get this]
              simp [pm_length]
            · rw [if_neg a2, if_neg (fun e => a1 e.symm)]
              have hx' : x < i := by omega
              have : x < (pm i f ++ [(f k : Int)]).length := by simp [pm_length]; omega
              rw [rd_get this, List.getElem_append_left (by rw [pm_length]; exact hx'), ← rd_get (by rw [pm_length]; exact hx'), rd_pm hx']
        show Ev (fun q => spec_l91Perm.l0 q _ ((pm i f ++ [rd (pm i f) (k : Int)]).set ((k : Int)).toNat (i : Int)) _ s (p + (i : Int) + 1)) _
        rw [es, ep]
        exact eg
  obtain ⟨g, hg, eg⟩ := loop n 0 (fun x => x) (by omega) (id_bij 0)
  refine ⟨g, hg, ?_⟩
  unfold spec_l91Perm.f
  have : p + ((0 : Nat) : Int) = p := by omega
  rw [this] at eg
  exact eg

/-- some list of numbers, seldom no permutation -/
theorem some_ev {s : List Int} (hs : Bytes s) {p : Int} (h0 : 0 ≤ p) (h1 : p ≤ 100000) {n : Int} (hn : 1 ≤ n) (hn2 : n ≤ 20) : ∃ l p', Ev (fun k => spec_l91Some.f k s p n) (l, p') ∧ l.length ≤ 30 ∧ p ≤ p' ∧ p' ≤ p + 100 := by
  obtain ⟨v, ev, v0, _, v1⟩ := pick_ev hs (p := p) (n := n) h0 (by omega) (by omega)
  have v2 := v1 hn
  obtain ⟨m, rfl⟩ : ∃ m : Nat, v = m := ⟨v.toNat, by omega⟩
  obtain ⟨f, hf, ef⟩ := perm_ev hs (p := p + 1) (n := 1 + m) (by omega) (by omega) (by omega)
  obtain ⟨v', ev', v0', _, v1'⟩ := pick_ev hs (p := p + 1 + ((1 + m : Nat) : Int)) (n := 40) (by omega) (by omega) (by omega)
  have ew : wrap64 (1 + (m : Int)) = ((1 + m : Nat) : Int) := by rw [wrap_in (by omega) (by omega)]; omega
  unfold spec_l91Some.f
  have hl : (pm (1 + m) f).length = 1 + m := pm_length _ _
  by_cases c0 : v' = 0
  · obtain ⟨v'', ev'', v0'', _, v1''⟩ := pick_ev hs (p := p + 1 + ((1 + m : Nat) : Int) + 1) (n := 2) (by omega) (by omega) (by omega)
    have := v1'' (by omega)
    refine ⟨(pm (1 + m) f).set 0 (rd [(-1), ((pm (1 + m) f).length : Int)] v''), p + 1 + ((1 + m : Nat) : Int) + 1 + 1, ?_, by simp [pm_length]; omega, by omega, by omega⟩
    refine Ev.bind1 ev ?_
    show Ev (fun n_1 => (spec_l91Perm.f n_1 s (p + 1) (wrap64 (1 + (m : Int)))).bind _) _
    rw [ew]
    exact Ev.bind1 ef (Ev.bind1 ev' (Ev.pos c0 (Ev.some1 (Ev.bind1 ev'' (Ev.pos v0'' (Ev.pos (by simp; omega) (Ev.pos (by simp [pm_length]; omega) (Ev.now _))))))))
  · by_cases c1 : v' = 1
    · refine ⟨[], p + 1 + ((1 + m : Nat) : Int) + 1, ?_, by simp, by omega, by omega⟩
      refine Ev.bind1 ev ?_
      show Ev (fun n_1 => (spec_l91Perm.f n_1 s (p + 1) (wrap64 (1 + (m : Int)))).bind _) _
      rw [ew]
      exact Ev.bind1 ef (Ev.bind1 ev' (Ev.neg c0 (Ev.pos c1 (Ev.now _))))
    · by_cases c2 : v' = 2
      · refine ⟨pm (1 + m) f ++ [rd (pm (1 + m) f) 0], p + 1 + ((1 + m : Nat) : Int) + 1, ?_, by simp [pm_length]; omega, by omega, by omega⟩
        refine Ev.bind1 ev ?_
        show Ev (fun n_1 => (spec_l91Perm.f n_1 s (p + 1) (wrap64 (1 + (m : Int)))).bind _) _
        rw [ew]
        exact Ev.bind1 ef (Ev.bind1 ev' (Ev.neg c0 (Ev.neg c1 (Ev.pos c2 (Ev.pos (by simp [pm_length]; omega) (Ev.pos (by simp [pm_length]; omega) (Ev.now _)))))))
      · refine ⟨pm (1 + m) f, p + 1 + ((1 + m : Nat) : Int) + 1, ?_, by simp [pm_length]; omega, by omega, by omega⟩
        refine Ev.bind1 ev ?_
        show Ev (fun n_1 => (spec_l91Perm.f n_1 s (p + 1) (wrap64 (1 + (m : Int)))).bind _) _
        rw [ew]
        exact Ev.bind1 ef (Ev.bind1 ev' (Ev.neg c0 (Ev.neg c1 (Ev.neg c2 (Ev.now _)))))

theorem two_ev {s : List Int} (hs : Bytes s) {p : Int} (h0 : 0 ≤ p) (h1 : p ≤ 10000) : ∃ l l' p', Ev (fun k => spec_l91Two.f k s p) (l, l', p') ∧ l.length ≤ 30 ∧ l'.length ≤ 30 ∧ p ≤ p' ∧ p' ≤ p + 300 := by
  obtain ⟨l, p1, e1, hl, q1, q2⟩ := some_ev hs h0 (by omega) (n := 8) (by omega) (by omega)
  obtain ⟨v, ev, v0, _, v1⟩ := pick_ev hs (p := p1) (n := 12) (by omega) (by omega) (by omega)
  obtain ⟨l2, p2, e2, hl2, q3, q4⟩ := some_ev hs (p := p1 + 1) (by omega) (by omega) (n := 8) (by omega) (by omega)
  obtain ⟨f, hf, ef⟩ := perm_ev hs (p := p1 + 1) (n := l.length) (by omega) (by omega) (by omega)
  have yes : Ev (fun k => spec_l91Two.j0 k l true s (p1 + 1)) (l, l2, p2) :=
    Ev.step (fun k => by rw [spec_l91Two.j0]) (Ev.pos rfl (Ev.bind1 e2 (Ev.now _)))
  have no : Ev (fun k => spec_l91Two.j0 k l false s (p1 + 1)) (l, pm l.length f, p1 + 1 + l.length) :=
    Ev.step (fun k => by rw [spec_l91Two.j0]) (Ev.neg (by simp) (Ev.bind1 ef (Ev.now _)))
  unfold spec_l91Two.f
  by_cases c : v = 0
  · exact ⟨l, l2, p2, Ev.bind1 e1 (Ev.bind1 ev (Ev.pos c yes)), hl, hl2, by omega, by omega⟩
  · by_cases d : l.length = 0
    · have e : ((l.length : Int) == 0) = true := by simp [d]
      refine ⟨l, l2, p2, Ev.bind1 e1 (Ev.bind1 ev (Ev.neg c ?_)), hl, hl2, by omega, by omega⟩
      show Ev (fun k => spec_l91Two.j0 k l ((l.length : Int) == 0) s (p1 + 1)) _
      rw [e]; exact yes
    · have e : ((l.length : Int) == 0) = false := by
        exact beq_eq_false_iff_ne.mpr (by omega)
      refine ⟨l, pm l.length f, p1 + 1 + l.length, Ev.bind1 e1 (Ev.bind1 ev (Ev.neg c ?_)), hl, by rw [pm_length]; exact hl, by omega, by omega⟩
      show Ev (fun k => spec_l91Two.j0 k l ((l.length : Int) == 0) s (p1 + 1)) _
      rw [e]; exact no

theorem drawConj_ev {l : List Int} (hw : ∀ x ∈ l, (Lit.int .u8 x).wf = true) : ∃ p q, p.length ≤ 30 ∧ q.length ≤ 30 ∧ Ev (fun k => spec_DrawPermConj.f k l) (p, q) := by
  obtain ⟨s, hs, es⟩ := open_ev hw
  obtain ⟨p, q, r, e, hl, hl', _⟩ := two_ev hs (p := 0) (by omega) (by omega)
  exact ⟨p, q, hl, hl', Ev.bind1 es (Ev.bind1 e (Ev.now _))⟩

theorem conj_back {n : Nat} {f g : Nat → Nat} (hf : Bij n f) (hg : Bij n g) : ∀ x, x < n → conj n (finv n g) (conj n g f) x = f x := by
  intro x hx
  have b := finv_bij hg
  refine conj_eq b (k := f) ?_ hx
  intro y hy
  obtain ⟨h1, h2⟩ := finv_spec hg hy
  have e := conj_at (f := f) hg h1
  rw [h2] at e
  rw [e, finv_left hg (hf.1 _ h1)]

/-- Renaming goes through cycles. -/
theorem FnConj : laws_FnConj.Pure := by
  intro l hl1 hl2 hw
  refine Ev.rounds ?_
  unfold laws_FnConj.f
  by_cases c : (l.length : Int) > 1048576
  · exact Ev.pos c (Ev.now _)
  · obtain ⟨p, q, hp, hq, ep⟩ := drawConj_ev hw
    have hlen : (conjR p q).1.length ≤ 1048576 := by
      by_cases v : both p q = true
      · obtain ⟨n, f, g, hf, hg⟩ := (both_iff p q).1 v
        rw [conjR_perm hf hg]; show (pm n _).length ≤ _; rw [pm_length]; have := hf.2.1; omega
      · unfold conjR; rw [if_neg v]; simp
    refine Ev.neg c (Ev.bind1 ep (Ev.bind1 (implConj_ev p q) (Ev.bind1 (specConj_ev (by show p.length ≤ _; omega) (by show q.length ≤ _; omega)) (Ev.neg (by simp) (Ev.bind1 (sameInts_ev (by omega)) (Ev.pos (by simp) ?_))))))
    refine Ev.step (fun k => by rw [laws_FnConj.j0]) ?_
    by_cases v : both p q = true
    · obtain ⟨n, f, g, hf, hg⟩ := (both_iff p q).1 v
      have h12 := hf.2.1
      rw [conjR_perm hf hg]
      have hc : IsPerm n (pm n (conj n g f)) (conj n g f) := ⟨hf.1, hf.2.1, conj_bij hg.2.2.1 hf.2.2.1, rfl⟩
      have hb : IsPerm n (pm n (finv n g)) (finv n g) := ⟨hf.1, hf.2.1, finv_bij hg.2.2.1, rfl⟩
      have h2 : IsPerm n (pm n fun i => f (f i)) (fun i => f (f i)) := ⟨hf.1, hf.2.1, comp_bij hf.2.2.1 hf.2.2.1, rfl⟩
      have mp : mulR p p = (pm n (fun i => f (f i)), true) := by
        unfold mulR
        rw [if_pos ((both_iff p p).2 ⟨n, f, f, hf, hf⟩), hf.2.2.2, pm_map hf.2.2.1.1]
      have mc : mulR (pm n (conj n g f)) (pm n (conj n g f)) = (pm n (fun i => conj n g f (conj n g f i)), true) := by
        unfold mulR
        rw [if_pos ((both_iff _ _).2 ⟨n, _, _, hc, hc⟩), pm_map hc.2.2.1.1]
      have e1 := implBack_ev q
      rw [backR_perm hg] at e1
      have e2 := implConj_ev (pm n (conj n g f)) (pm n (finv n g))
      rw [conjR_perm hc hb] at e2
      have e3 := implMul_ev p p
      rw [mp] at e3
      have e4 := implConj_ev (pm n fun i => f (f i)) q
      rw [conjR_perm h2 hg] at e4
      have e5 := implMul_ev (pm n (conj n g f)) (pm n (conj n g f))
      rw [mc] at e5
      refine Ev.neg (by simp) (Ev.bind1 e1 (Ev.bind1 e2 (Ev.bind1 e3 (Ev.bind1 e4 (Ev.bind1 e5 ?_)))))
      have x1 : pm n (conj n (finv n g) (conj n g f)) = p := by
        rw [hf.2.2.2, pm_ext]
        exact conj_back hf.2.2.1 hg.2.2.1
      have x2 : pm n (conj n g fun i => f (f i)) = pm n (fun i => conj n g f (conj n g f i)) := by
        rw [pm_ext]
        intro i hi
        refine conj_eq hg.2.2.1 (k := fun i => conj n g f (conj n g f i)) ?_ hi
        intro x hx
        show conj n g f (conj n g f (g x)) = g (f (f x))
        rw [conj_at hg.2.2.1 hx, conj_at hg.2.2.1 (hf.2.2.1.1 x hx)]
      rw [x1, x2]
      have loop : ∀ d i, i + d = n → Ev (fun k => laws_FnConj.l0 k p q (pm n (conj n g f)) true p true true (pm n (fun i => conj n g f (conj n g f i))) true (pm n (fun i => conj n g f (conj n g f i))) true (i : Int)) true := by
        intro d
        induction d with
        | zero =>
          intro i hi
          refine Ev.step (fun k => by rw [laws_FnConj.l0]) ?_
          refine Ev.neg (by rw [isPerm_len hf]; omega) (Ev.pos rfl (Ev.pos rfl (Ev.pos rfl (Ev.pos rfl (Ev.pos rfl (Ev.bind1 (sameInts_ev (by omega)) (Ev.pos (by simp) (Ev.bind1 (sameInts_ev (by rw [pm_length]; omega)) ?_))))))))
          simp only [decide_true]
          exact Ev.now _
        | succ d ih =>
          intro i hi
          have hin : i < n := by omega
          have g1 := hg.2.2.1.1 i hin
          have f1 := hf.2.2.1.1 i hin
          have a1 : rd q (i : Int) = (g i : Int) := by rw [hg.2.2.2, rd_pm hin]
          have a2 : rd p (i : Int) = (f i : Int) := by rw [hf.2.2.2, rd_pm hin]
          have a3 : rd q ((f i : Nat) : Int) = (g (f i) : Int) := by rw [hg.2.2.2, rd_pm f1]
          have a4 : rd (pm n (conj n g f)) ((g i : Nat) : Int) = (g (f i) : Int) := by rw [rd_pm g1, conj_at hg.2.2.1 hin]
          refine Ev.step (f := fun k => laws_FnConj.l0 k p q (pm n (conj n g f)) true p true true (pm n (fun i => conj n g f (conj n g f i))) true (pm n (fun i => conj n g f (conj n g f i))) true ((i + 1 : Nat) : Int)) (fun k => by
            rw [laws_FnConj.l0, if_pos (by rw [isPerm_len hf]; omega), if_pos (by omega), if_pos (by rw [isPerm_len hg]; omega), a1, if_pos (by omega), if_pos (by rw [pm_length]; omega), a2, if_pos (by omega), if_pos (by rw [isPerm_len hg]; omega), a3, a4, if_pos rfl, wrap_nat (by omega)]) ?_
          exact ih (i + 1) (by omega)
      exact loop n 0 (by omega)
    · have e : conjR p q = ([], false) := by unfold conjR; rw [if_neg v]
      rw [e]
      refine Ev.pos rfl (Ev.pos (by simp) (Ev.bind1 (sameInts_ev (by simp)) ?_))
      simp only [decide_true]
      exact Ev.now _
end Go.Proofs.Ytknkefjleinkkaa.R
namespace Go.Proofs.Ytknkefjleinkkaa.Pure
theorem FnConj : Go.Proofs.Ytknkefjleinkkaa.F.laws_FnConj.Pure := Go.Proofs.Ytknkefjleinkkaa.R.FnConj
end Go.Proofs.Ytknkefjleinkkaa.Pure
