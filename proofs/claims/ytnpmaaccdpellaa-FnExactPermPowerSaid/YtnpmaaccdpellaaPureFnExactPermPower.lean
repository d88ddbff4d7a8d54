/- The reference and the program agree on powers of permutations, and what they hand back is new memory. -/
import Derived.Test.YtnpmaaccdpellaaF1
import Derived.Test.YtnpmaaccdpellaaF2
import Derived.Test.YtnpmaaccdpellaaF3
import Derived.Test.YtnpmaaccdpellaaF4
import Derived.Test.YtnpmaaccdpellaaF5
import Derived.Test.YtnpmaaccdpellaaF6
import Derived.Test.YtnpmaaccdpellaaF8
import Derived.Test.YtnpmaaccdpellaaF9
import Derived.Test.YtnpmaaccdpellaaF18
import Derived.Test.YtnpmaaccdpellaaF20
import Derived.Test.YtnpmaaccdpellaaF28
import Derived.Test.YtnpmaaccdpellaaF29
import Derived.Test.YtnpmaaccdpellaaF30
set_option linter.unusedVariables false
set_option linter.unusedSimpArgs false
namespace Go.Proofs.Ytnpmaaccdpellaa.Sm
open List
/-- f permutes the numbers below n. -/
def Bij (n : Nat) (f : Nat → Nat) : Prop := (∀ i, i < n → f i < n) ∧ (∀ i j, i < n → j < n → f i = f j → i = j)

/-- the list of a permutation -/
def pm (n : Nat) (f : Nat → Nat) : List Int := (List.range n).map (fun i => (f i : Int))

theorem pm_length (n : Nat) (f : Nat → Nat) : (pm n f).length = n := by simp [pm]

theorem pm_getD (n : Nat) (f : Nat → Nat) (i : Nat) (h : i < n) : (pm n f).getD i 0 = (f i : Int) := by
  simp [pm, List.getD, h]

theorem pm_ext {n : Nat} {f g : Nat → Nat} : pm n f = pm n g ↔ ∀ i, i < n → f i = g i := by
  constructor
  · intro h i hi
    have := pm_getD n f i hi
    rw [h, pm_getD n g i hi] at this
    omega
  · intro h
    unfold pm
    apply List.map_congr_left
    intro i hi
    rw [h i (by simpa using hi)]

theorem eq_pm (n : Nat) (f : Nat → Nat) (l : List Int) (hl : l.length = n) (h : ∀ i, i < n → l.getD i 0 = (f i : Int)) : l = pm n f := by
  apply List.ext_getElem
  · rw [hl, pm_length]
  · intro i h1 h2
    have := h i (by omega)
    have e := pm_getD n f i (by omega)
    simp only [List.getD_eq_getElem?_getD, List.getElem?_eq_getElem h1, Option.getD_some] at this
    simp only [List.getD_eq_getElem?_getD, List.getElem?_eq_getElem h2, Option.getD_some] at e
    rw [this, e]

/-- the permutation without its last point -/
def byp (n : Nat) (f : Nat → Nat) (i : Nat) : Nat := if f i = n then f n else f i

theorem byp_bij {n : Nat} {f : Nat → Nat} (h : Bij (n + 1) f) : Bij n (byp n f) := by
  obtain ⟨h1, h2⟩ := h
  constructor
  · intro i hi
    unfold byp
    have a := h1 i (by omega)
    have b := h1 n (by omega)
    split
    · rename_i e
      have : f n ≠ n := fun e2 => by have := h2 i n (by omega) (by omega) (by omega); omega
      omega
    · omega
  · intro i j hi hj e
    unfold byp at e
    by_cases e1 : f i = n <;> by_cases e2 : f j = n
    · exact h2 i j (by omega) (by omega) (by omega)
    · rw [if_pos e1, if_neg e2] at e
      have := h2 n j (by omega) (by omega) e; omega
    · rw [if_neg e1, if_pos e2] at e
      have := h2 i n (by omega) (by omega) e; omega
    · rw [if_neg e1, if_neg e2] at e
      exact h2 i j (by omega) (by omega) e

theorem surj {n : Nat} {f : Nat → Nat} (h : Bij n f) : ∀ y, y < n → ∃ x, x < n ∧ f x = y := by
  induction n generalizing f with
  | zero => intro y hy; omega
  | succ n ih =>
    have hb := ih (byp_bij h)
    obtain ⟨h1, h2⟩ := h
    intro y hy
    by_cases e : y = n
    · subst e
      by_cases e1 : f y = y
      · exact ⟨y, by omega, e1⟩
      · have b := h1 y (by omega)
        obtain ⟨x, hx, e2⟩ := hb (f y) (by omega)
        unfold byp at e2
        split at e2
        · rename_i e3; exact ⟨x, by omega, e3⟩
        · have := h2 x y (by omega) (by omega) e2; omega
    · obtain ⟨x, hx, e2⟩ := hb y (by omega)
      unfold byp at e2
      split at e2
      · exact ⟨n, by omega, e2⟩
      · exact ⟨x, by omega, e2⟩

/-- the inverse below n -/
def finv (n : Nat) (f : Nat → Nat) (y : Nat) : Nat := ((List.range n).find? (fun i => f i == y)).getD 0

theorem finv_spec {n : Nat} {f : Nat → Nat} (h : Bij n f) {y : Nat} (hy : y < n) : finv n f y < n ∧ f (finv n f y) = y := by
  obtain ⟨x, hx, e⟩ := surj h y hy
  unfold finv
  cases hf : (List.range n).find? (fun i => f i == y) with
  | none =>
    rw [List.find?_eq_none] at hf
    exact absurd (hf x (by simpa using hx)) (by simp [e])
  | some z =>
    have a := List.mem_of_find?_eq_some hf
    have b := List.find?_some hf
    simp at a b
    exact ⟨by simpa using a, by simpa using b⟩

theorem finv_left {n : Nat} {f : Nat → Nat} (h : Bij n f) {x : Nat} (hx : x < n) : finv n f (f x) = x := by
  have := finv_spec h (h.1 x hx)
  exact h.2 _ _ this.1 hx this.2

theorem finv_bij {n : Nat} {f : Nat → Nat} (h : Bij n f) : Bij n (finv n f) := by
  refine ⟨fun i hi => (finv_spec h hi).1, fun i j hi hj e => ?_⟩
  have a := (finv_spec h hi).2
  have b := (finv_spec h hj).2
  rw [e] at a
  omega

/-- f done m times -/
def it (f : Nat → Nat) : Nat → Nat → Nat
  | 0, x => x
  | m + 1, x => f (it f m x)

theorem it_lt {n : Nat} {f : Nat → Nat} (h : Bij n f) (m : Nat) {x : Nat} (hx : x < n) : it f m x < n := by
  induction m with
  | zero => exact hx
  | succ m ih => exact h.1 _ ih

theorem it_inj {n : Nat} {f : Nat → Nat} (h : Bij n f) (m : Nat) {x y : Nat} (hx : x < n) (hy : y < n) (e : it f m x = it f m y) : x = y := by
  induction m with
  | zero => exact e
  | succ m ih => exact ih (h.2 _ _ (it_lt h m hx) (it_lt h m hy) e)

theorem it_bij {n : Nat} {f : Nat → Nat} (h : Bij n f) (m : Nat) : Bij n (it f m) :=
  ⟨fun _ hi => it_lt h m hi, fun _ _ hi hj e => it_inj h m hi hj e⟩

/-- a renaming from one map to another one -/
structure Iso (n : Nat) (t s t' s' g : Nat → Nat) : Prop where
  bij : Bij n g
  et : ∀ x, x < n → t' (g x) = g (t x)
  es : ∀ x, x < n → s' (g x) = g (s x)

theorem Iso.symm {n : Nat} {t s t' s' g : Nat → Nat} (i : Iso n t s t' s' g) (ht : Bij n t) (hs : Bij n s) : Iso n t' s' t s (finv n g) := by
  refine ⟨finv_bij i.bij, fun x hx => ?_, fun x hx => ?_⟩
  · obtain ⟨a, ha, rfl⟩ := surj i.bij x hx
    rw [finv_left i.bij ha, i.et a ha, finv_left i.bij (ht.1 a ha)]
  · obtain ⟨a, ha, rfl⟩ := surj i.bij x hx
    rw [finv_left i.bij ha, i.es a ha, finv_left i.bij (hs.1 a ha)]
end Go.Proofs.Ytnpmaaccdpellaa.Sm
namespace Go.Proofs.Ytnpmaaccdpellaa.R
open Go.RowKit Go.Proofs.YtnpmaaccdpellaaW.PrintWords Go.Proofs.YtnpmaaccdpellaaW.PrintLast Go.Proofs.YtnpmaaccdpellaaW.PrintMore Go.Proofs.Ytnpmaaccdpellaa.F Go.Proofs.Ytnpmaaccdpellaa.Sm
theorem Ev.pos {α : Type} {c : Prop} [Decidable c] {A B : Nat → Option α} {r : α} (h : c) (k : Ev A r) : Ev (fun n => if c then A n else B n) r := by
  simp only [if_pos h]; exact k

theorem Ev.neg {α : Type} {c : Prop} [Decidable c] {A B : Nat → Option α} {r : α} (h : ¬ c) (k : Ev B r) : Ev (fun n => if c then A n else B n) r := by
  simp only [if_neg h]; exact k

theorem Ev.bind1 {α β : Type} {g : Nat → Option α} {f : Nat → α → Option β} {a : α} {r : β} (h : Ev g a) (k : Ev (fun n => f n a) r) : Ev (fun n => (g n).bind (f n)) r := Ev.bind h k

theorem wrap_nat {i : Nat} (h : i < 9223372036854775807) : wrap64 ((i : Int) + 1) = ((i + 1 : Nat) : Int) := by unfold wrap64; omega

theorem wrap_in {n : Int} (h1 : -9223372036854775808 ≤ n) (h2 : n ≤ 9223372036854775807) : wrap64 n = n := by unfold wrap64; omega

theorem rd_get {l : List Int} {i : Nat} (h : i < l.length) : rd l (i : Int) = l[i] := by
  unfold rd; simp [h]

theorem rd_pm {n : Nat} {f : Nat → Nat} {i : Nat} (h : i < n) : rd (pm n f) (i : Int) = (f i : Int) := by
  unfold rd; exact pm_getD n f i h

theorem toIntS_loop (l : List Int) (hl : l.length ≤ 1048576) : ∀ d i (s : List Int), i + d = l.length → s.length = l.length → Ev (fun k => laws_toIntS.l0 k l s (i : Int)) (s.take i ++ l.drop i) := by
  intro d
  induction d with
  | zero =>
    intro i s hi hs
    refine Ev.step (f := fun _ => some s) (fun k => by rw [laws_toIntS.l0, if_neg (by omega)]) ?_
    rw [List.take_of_length_le (by omega), List.drop_of_length_le (by omega), List.append_nil]
    exact Ev.now _
  | succ d ih =>
    intro i s hi hs
    refine Ev.step (f := fun k => laws_toIntS.l0 k l (s.set i (rd l i)) ((i + 1 : Nat) : Int)) (fun k => by
      rw [laws_toIntS.l0, if_pos (by omega), if_pos (by omega), if_pos (by omega), wrap_nat (by omega)]; rfl) ?_
    have := ih (i + 1) (s.set i (rd l i)) (by omega) (by simp [hs])
    have e : (s.set i (rd l i)).take (i + 1) ++ l.drop (i + 1) = s.take i ++ l.drop i := by
      rw [List.drop_eq_getElem_cons (show i < l.length by omega), rd_get (by omega)]
      rw [List.take_succ_eq_append_getElem (by simp; omega)]
      rw [List.take_set_of_le (Nat.le_refl i)]
      simp
    rw [e] at this
    exact this

theorem toIntS_ev {l : List Int} (hl : l.length ≤ 1048576) : Ev (fun k => laws_toIntS.f k l) l := by
  unfold laws_toIntS.f
  refine Ev.pos (by omega) (Ev.pos (by omega) ?_)
  have := toIntS_loop l hl l.length 0 (List.replicate l.length 0) (by omega) (by simp)
  simpa using this

theorem eqIntS_loop (a b : List Int) (hl : a.length = b.length) (hb : a.length ≤ 1048576) : ∀ d i, i + d = a.length → Ev (fun k => laws_eqIntS.l0 k a b (i : Int)) (decide (a.drop i = b.drop i)) := by
  intro d
  induction d with
  | zero =>
    intro i hi
    refine Ev.step (f := fun _ => some true) (fun k => by rw [laws_eqIntS.l0, if_neg (by omega)]) ?_
    rw [List.drop_of_length_le (by omega), List.drop_of_length_le (by omega)]
    exact Ev.now _
  | succ d ih =>
    intro i hi
    have ha : i < a.length := by omega
    have hb' : i < b.length := by omega
    rw [List.drop_eq_getElem_cons ha, List.drop_eq_getElem_cons hb']
    by_cases c : a[i] = b[i]
    · refine Ev.step (f := fun k => laws_eqIntS.l0 k a b ((i + 1 : Nat) : Int)) (fun k => by
        rw [laws_eqIntS.l0, if_pos (by omega), if_pos (by omega), if_pos (by omega), rd_get ha, rd_get hb', if_pos c, wrap_nat (by omega)]) ?_
      have e : decide (a[i] :: a.drop (i + 1) = b[i] :: b.drop (i + 1)) = decide (a.drop (i + 1) = b.drop (i + 1)) := by
        simp only [List.cons.injEq, c, true_and]
      rw [e]
      exact ih (i + 1) (by omega)
    · refine Ev.step (f := fun k => some false) (fun k => by
        rw [laws_eqIntS.l0, if_pos (by omega), if_pos (by omega), if_pos (by omega), rd_get ha, rd_get hb', if_neg c]) ?_
      have : decide (a[i] :: a.drop (i + 1) = b[i] :: b.drop (i + 1)) = false := by
        simp only [List.cons.injEq, c, false_and, decide_false]
      rw [this]
      exact Ev.now _

theorem eqIntS_ev {a b : List Int} (hb : a.length ≤ 1048576) : Ev (fun k => laws_eqIntS.f k a b) (decide (a = b)) := by
  unfold laws_eqIntS.f
  by_cases c : a.length = b.length
  · refine Ev.pos (by omega) ?_
    exact eqIntS_loop a b c hb a.length 0 (by omega)
  · have : decide (a = b) = false := by simp; intro e; exact c (by rw [e])
    rw [this]
    exact Ev.neg (by omega) (Ev.now _)

def marks (m : Int) (n : Nat) : List Int := (List.range n).map fun (j : Nat) => m + (j : Int)

theorem marks_length (m : Int) (n : Nat) : (marks m n).length = n := by simp [marks]

theorem markIntS_loop (n : Nat) (m : Int) (hm : 0 ≤ m) (hb : m + n ≤ 9223372036854775807) : ∀ d i (l : List Int), i + d = n → l.length = n → l.take i = marks m i → Ev (fun k => laws_markIntS.l0 k l (m + i) (i : Int)) (m + n, marks m n) := by
  intro d
  induction d with
  | zero =>
    intro i l hi hl ht
    have e : i = n := by omega
    subst e
    refine Ev.step (f := fun _ => some (m + i, l)) (fun k => by rw [laws_markIntS.l0, if_neg (by omega)]) ?_
    rw [List.take_of_length_le (by omega)] at ht
    rw [ht]
    exact Ev.now _
  | succ d ih =>
    intro i l hi hl ht
    refine Ev.step (f := fun k => laws_markIntS.l0 k (l.set i (m + i)) (m + ((i + 1 : Nat) : Int)) ((i + 1 : Nat) : Int)) (fun k => by
      rw [laws_markIntS.l0, if_pos (by omega), if_pos (by omega), wrap_nat (by omega), show wrap64 (m + (i : Int) + 1) = m + ((i + 1 : Nat) : Int) by rw [wrap_in (by omega) (by omega)]; omega]; rfl) ?_
    refine ih (i + 1) _ (by omega) (by simp [hl]) ?_
    rw [List.take_succ_eq_append_getElem (by simp; omega), List.take_set_of_le (Nat.le_refl i), ht]
    simp [marks, List.range_succ]

theorem markIntS_ev {l : List Int} {m : Int} (hm : 0 ≤ m) (hb : m + l.length ≤ 9223372036854775807) : Ev (fun k => laws_markIntS.f k l m) (m + l.length, marks m l.length) := by
  unfold laws_markIntS.f
  have := markIntS_loop l.length m hm hb l.length 0 l (by omega) rfl (by simp [marks])
  simpa using this

theorem heldIntS_loop (n : Nat) (m : Int) (hm : 0 ≤ m) (hb : m + n ≤ 9223372036854775807) : ∀ d i, i + d = n → Ev (fun k => laws_heldIntS.l0 k (marks m n) (m + i) (i : Int)) (m + n) := by
  intro d
  induction d with
  | zero =>
    intro i hi
    have e : i = n := by omega
    subst e
    refine Ev.step (f := fun _ => some (m + i)) (fun k => by rw [laws_heldIntS.l0, if_neg (by rw [marks_length]; omega)]) ?_
    exact Ev.now _
  | succ d ih =>
    intro i hi
    have e : rd (marks m n) (i : Int) = m + i := by
      rw [rd_get (by rw [marks_length]; omega)]; simp [marks]
    refine Ev.step (f := fun k => laws_heldIntS.l0 k (marks m n) (m + ((i + 1 : Nat) : Int)) ((i + 1 : Nat) : Int)) (fun k => by
      rw [laws_heldIntS.l0, if_pos (by rw [marks_length]; omega), if_pos (by omega), if_pos e, wrap_nat (by omega), show wrap64 (m + (i : Int) + 1) = m + ((i + 1 : Nat) : Int) by rw [wrap_in (by omega) (by omega)]; omega]) ?_
    exact ih (i + 1) (by omega)

theorem heldIntS_ev {n : Nat} {m : Int} (hm : 0 ≤ m) (hb : m + n ≤ 9223372036854775807) : Ev (fun k => laws_heldIntS.f k (marks m n) m) (m + n) := by
  unfold laws_heldIntS.f
  have := heldIntS_loop n m hm hb n 0 (by omega)
  simpa using this

/-- a list that is a permutation -/
def IsPerm (n : Nat) (l : List Int) (f : Nat → Nat) : Prop := 1 ≤ n ∧ n ≤ 12 ∧ Bij n f ∧ l = pm n f

theorem valid_iff (l : List Int) : impl_PermValid.validB l = true ↔ ∃ f, IsPerm l.length l f := by
  unfold impl_PermValid.validB
  simp only [Bool.and_eq_true, decide_eq_true_eq, List.all_eq_true, List.mem_range]
  constructor
  · rintro ⟨⟨h1, h2⟩, h3⟩
    have h3' : ∀ i, i < l.length → 0 ≤ rd l i ∧ rd l i < l.length ∧ ∀ j, j < i → rd l j ≠ rd l i := by
      intro i hi
      have := h3 i hi
      unfold impl_PermValid.okAt at this
      simp only [Bool.and_eq_true, decide_eq_true_eq, Bool.not_eq_true', List.contains_eq_mem, decide_eq_false_iff_not] at this
      refine ⟨this.1.1, this.1.2, fun j hj e => this.2 ?_⟩
      rw [← e, rd_get (show j < l.length by omega)]
      rw [List.mem_iff_getElem]
      exact ⟨j, by simp; omega, by simp⟩
    refine ⟨fun i => (rd l i).toNat, h1, h2, ⟨fun i hi => by have := h3' i hi; show (rd l i).toNat < _; omega, fun i j hi hj e => ?_⟩, ?_⟩
    · have a := h3' i hi
      have b := h3' j hj
      have e' : (rd l i).toNat = (rd l j).toNat := e
      rcases Nat.lt_trichotomy i j with c | c | c
      · exact (b.2.2 i c (by omega)).elim
      · exact c
      · exact (a.2.2 j c (by omega)).elim
    · refine eq_pm _ _ _ rfl fun i hi => ?_
      have := h3' i hi
      show l.getD i 0 = (((rd l i).toNat : Nat) : Int)
      have e : l.getD i 0 = rd l i := rfl
      omega
  · rintro ⟨f, h1, h2, hf, e⟩
    refine ⟨⟨h1, h2⟩, fun i hi => ?_⟩
    have r : ∀ j, j < l.length → rd l j = (f j : Int) := fun j hj => by
      have := rd_pm (n := l.length) (f := f) hj
      rwa [← e] at this
    unfold impl_PermValid.okAt
    simp only [Bool.and_eq_true, decide_eq_true_eq, Bool.not_eq_true', List.contains_eq_mem, decide_eq_false_iff_not]
    refine ⟨⟨by rw [r i hi]; omega, by rw [r i hi]; have := hf.1 i hi; omega⟩, fun hm => ?_⟩
    rw [List.mem_iff_getElem] at hm
    obtain ⟨j, hj, ej⟩ := hm
    have hj' : j < i := by simp at hj; omega
    have : l[j]'(by omega) = rd l i := by simpa using ej
    rw [← rd_get (show j < l.length by omega), r i hi, r j (by omega)] at this
    have := hf.2 j i (by omega) hi (by omega)
    omega

theorem implValid_ev (l : List Int) : Ev (fun _ => impl_PermValid.f l) (impl_PermValid.validB l) := Ev.now _

/-- the reference's look: up to i all is well -/
theorem specValid_ev (l : List Int) (hl : l.length ≤ 4294967296) : Ev (fun k => spec_PermValid.f k l) (impl_PermValid.validB l) := by
  have e0 : ∀ (a b c : Int), spec_l6In.f a b c = some (decide (b ≤ a) && decide (a ≤ c)) := by
    intro a b c
    unfold spec_l6In.f
    by_cases h : b ≤ a
    · rw [if_pos h]; simp [h]
    · rw [if_neg h]; simp [h]
  -- the inner loop
  have inner : ∀ d i j, i < l.length → j + d = i → (∀ m, m < j → rd l m ≠ rd l i) → ∀ r, ((∀ m, m < i → rd l m ≠ rd l i) → Ev (fun k => spec_PermValid.l0 k l ((i + 1 : Nat) : Int)) r) → ((∃ m, m < i ∧ rd l m = rd l i) → r = false) → Ev (fun k => spec_PermValid.l1 k l (i : Int) (j : Int)) r := by
    intro d
    induction d with
    | zero =>
      intro i j hi hj hm r h1 h2
      refine Ev.step (f := fun k => spec_PermValid.l0 k l ((i + 1 : Nat) : Int)) (fun k => by rw [spec_PermValid.l1, if_neg (by omega), wrap_nat (by omega)]) ?_
      exact h1 (fun m hmi => hm m (by omega))
    | succ d ih =>
      intro i j hi hj hm r h1 h2
      by_cases c : rd l (j : Int) = rd l (i : Int)
      · have := h2 ⟨j, by omega, c⟩
        subst this
        refine Ev.step (f := fun k => some false) (fun k => by
          rw [spec_PermValid.l1, if_pos (by omega), if_pos (by omega), if_pos (by omega), if_pos (by omega), if_pos (by omega), if_pos c]) (Ev.now _)
      · refine Ev.step (f := fun k => spec_PermValid.l1 k l (i : Int) ((j + 1 : Nat) : Int)) (fun k => by
          rw [spec_PermValid.l1, if_pos (by omega), if_pos (by omega), if_pos (by omega), if_pos (by omega), if_pos (by omega), if_neg c, wrap_nat (by omega)]) ?_
        refine ih i (j + 1) hi (by omega) (fun m hm' => ?_) r h1 h2
        by_cases e : m = j
        · subst e; exact c
        · exact hm m (by omega)
  have outer : ∀ d i, i + d = l.length → (∀ m, m < i → impl_PermValid.okAt l m = true) → Ev (fun k => spec_PermValid.l0 k l (i : Int)) (impl_PermValid.validB l) := by
    intro d
    induction d with
    | zero =>
      intro i hi hm
      have e : impl_PermValid.validB l = (decide ((1 : Int) ≤ (l.length : Int)) && decide ((l.length : Int) ≤ 12)) := by
        unfold impl_PermValid.validB
        have : (List.range l.length).all (impl_PermValid.okAt l) = true := by
          rw [List.all_eq_true]; intro m hm'; exact hm m (by have := List.mem_range.1 hm'; omega)
        rw [this]
        rw [Bool.and_true]
        congr 1
        · simp; omega
        · simp; omega
      refine Ev.step (f := fun _ => some (impl_PermValid.validB l)) (fun k => by rw [spec_PermValid.l0, if_neg (by omega), e0, e]; rfl) (Ev.now _)
    | succ d ih =>
      intro i hi hm
      have hil : i < l.length := by omega
      have fail : impl_PermValid.okAt l i = false → impl_PermValid.validB l = false := impl_PermValid.valid_fail l i hil
      have ew : wrap64 ((l.length : Int) - 1) = (l.length : Int) - 1 := wrap_in (by omega) (by omega)
      by_cases c : 0 ≤ rd l (i : Int) ∧ rd l (i : Int) ≤ (l.length : Int) - 1
      · refine Ev.step (f := fun k => spec_PermValid.l1 k l (i : Int) ((0 : Nat) : Int)) (fun k => by
          rw [spec_PermValid.l0, if_pos (by omega), if_pos (by omega), e0, ew]
          simp only [Option.bind_some]
          rw [if_pos (by simp [c.1, c.2])]; rfl) ?_
        refine inner i i 0 hil (by omega) (fun m hm' => absurd hm' (by omega)) _ (fun hd => ?_) (fun hd => ?_)
        · refine ih (i + 1) (by omega) (fun m hm' => ?_)
          by_cases e : m = i
          · subst e
            unfold impl_PermValid.okAt
            simp only [Bool.and_eq_true, decide_eq_true_eq, Bool.not_eq_true', List.contains_eq_mem, decide_eq_false_iff_not]
            refine ⟨⟨c.1, by omega⟩, fun hx => ?_⟩
            rw [List.mem_iff_getElem] at hx
            obtain ⟨j, hj, ej⟩ := hx
            have hj' : j < m := by simp at hj; omega
            have : l[j]'(by omega) = rd l m := by simpa using ej
            rw [← rd_get (show j < l.length by omega)] at this
            exact hd j hj' this
          · exact hm m (by omega)
        · obtain ⟨m, hmi, em⟩ := hd
          apply fail
          unfold impl_PermValid.okAt
          have : (l.take i).contains (rd l i) = true := by
            rw [List.contains_eq_mem, decide_eq_true_eq, ← em, rd_get (show m < l.length by omega), List.mem_iff_getElem]
            exact ⟨m, by simp; omega, by simp⟩
          simp only [this, Bool.not_true, Bool.and_false]
      · have : impl_PermValid.validB l = false := by
          apply fail
          unfold impl_PermValid.okAt
          by_cases c1 : 0 ≤ rd l (i : Int)
          · have : ¬ rd l (i : Int) < l.length := by omega
            simp [this]
          · simp [c1]
        rw [this]
        refine Ev.step (f := fun k => some false) (fun k => by
          rw [spec_PermValid.l0, if_pos (by omega), if_pos (by omega), e0, ew]
          simp only [Option.bind_some]
          rw [if_neg]
          simp only [Bool.and_eq_true, decide_eq_true_eq]
          exact c) (Ev.now _)
  unfold spec_PermValid.f
  exact outer l.length 0 (by omega) (fun m hm => absurd hm (by omega))

theorem rd_set {s : List Int} {a b : Nat} {v : Int} (h : a < s.length) : rd (s.set a v) (b : Int) = if a = b then v else rd s (b : Int) := by
  unfold rd
  simp only [Int.toNat_natCast, List.getD_eq_getElem?_getD, List.getElem?_set]
  by_cases e : a = b
  · subst e; simp [h]
  · simp [e]

theorem eq_pm' {n : Nat} {f : Nat → Nat} {l : List Int} (hl : l.length = n) (h : ∀ i, i < n → rd l (i : Int) = (f i : Int)) : l = pm n f :=
  eq_pm n f l hl fun i hi => by have := h i hi; unfold rd at this; simpa using this

theorem still_ev {n : Nat} (hn : n ≤ 1000) : Ev (fun k => impl_still.f k (n : Int)) (pm n fun i => i) := by
  have loop : ∀ d i (s : List Int), i + d = n → s.length = n → (∀ j, j < i → rd s (j : Int) = (j : Int)) → Ev (fun k => impl_still.l0 k s (n : Int) (i : Int)) (pm n fun i => i) := by
    intro d
    induction d with
    | zero =>
      intro i s hi hs h
      refine Ev.step (f := fun _ => some s) (fun k => by rw [impl_still.l0, if_neg (by omega)]) ?_
      rw [eq_pm' (f := fun i => i) hs (fun j hj => h j (by omega))]
      exact Ev.now _
    | succ d ih =>
      intro i s hi hs h
      refine Ev.step (f := fun k => impl_still.l0 k (s.set i (i : Int)) (n : Int) ((i + 1 : Nat) : Int)) (fun k => by
        rw [impl_still.l0, if_pos (by omega), if_pos (by omega), if_pos (by omega), wrap_nat (by omega)]; rfl) ?_
      refine ih (i + 1) _ (by omega) (by simp [hs]) (fun j hj => ?_)
      rw [rd_set (by omega)]
      by_cases e : i = j
      · rw [if_pos e, e]
      · rw [if_neg e]; exact h j (by omega)
  unfold impl_still.f
  refine Ev.pos (by omega) (Ev.pos (by omega) ?_)
  have := loop n 0 (List.replicate n 0) (by omega) (by simp) (fun j hj => absurd hj (by omega))
  simpa using this

theorem l1Same_ev {n : Nat} (hn : n ≤ 1000) : Ev (fun k => spec_l1Same.f k (n : Int)) (pm n fun i => i) := by
  have loop : ∀ d i, i + d = n → Ev (fun k => spec_l1Same.l0 k (n : Int) (pm i fun i => i) (i : Int)) (pm n fun i => i) := by
    intro d
    induction d with
    | zero =>
      intro i hi
      have e : i = n := by omega
      subst e
      exact Ev.step (f := fun _ => some (pm i fun i => i)) (fun k => by rw [spec_l1Same.l0, if_neg (by omega)]) (Ev.now _)
    | succ d ih =>
      intro i hi
      refine Ev.step (f := fun k => spec_l1Same.l0 k (n : Int) (pm (i + 1) fun i => i) ((i + 1 : Nat) : Int)) (fun k => by
        rw [spec_l1Same.l0, if_pos (by omega), if_pos (by rw [pm_length]; omega), wrap_nat (by omega)]
        simp [pm, List.range_succ]) (ih (i + 1) (by omega))
  unfold spec_l1Same.f
  exact loop n 0 (by omega)

theorem mul_ev {n : Nat} {f g : Nat → Nat} (hn : n ≤ 1000) (hf : ∀ i, i < n → f i < n) : Ev (fun k => impl_mul.f k (pm n f) (pm n g)) (pm n fun i => g (f i)) := by
  have loop : ∀ d i (s : List Int), i + d = n → s.length = n → (∀ j, j < i → rd s (j : Int) = (g (f j) : Int)) → Ev (fun k => impl_mul.l0 k (pm n g) s (pm n f) (n : Int) (i : Int)) (pm n fun i => g (f i)) := by
    intro d
    induction d with
    | zero =>
      intro i s hi hs h
      refine Ev.step (f := fun _ => some s) (fun k => by rw [impl_mul.l0, if_neg (by omega)]) ?_
      rw [eq_pm' (f := fun i => g (f i)) hs (fun j hj => h j (by omega))]
      exact Ev.now _
    | succ d ih =>
      intro i s hi hs h
      have hfi := hf i (by omega)
      refine Ev.step (f := fun k => impl_mul.l0 k (pm n g) (s.set i (g (f i) : Int)) (pm n f) (n : Int) ((i + 1 : Nat) : Int)) (fun k => by
        rw [impl_mul.l0, if_pos (by omega), if_pos (by omega), if_pos (by rw [pm_length]; omega), rd_pm (by omega), if_pos (by omega), if_pos (by rw [pm_length]; omega), if_pos (by omega), wrap_nat (by omega), rd_pm hfi]; rfl) ?_
      refine ih (i + 1) _ (by omega) (by simp [hs]) (fun j hj => ?_)
      rw [rd_set (by omega)]
      by_cases e : i = j
      · rw [if_pos e, e]
      · rw [if_neg e]; exact h j (by omega)
  unfold impl_mul.f
  simp only [pm_length]
  refine Ev.pos (by omega) (Ev.pos (by omega) ?_)
  have := loop n 0 (List.replicate n 0) (by omega) (by simp) (fun j hj => absurd hj (by omega))
  simpa using this

theorem l1Mul_ev {n : Nat} {f g : Nat → Nat} (hn : n ≤ 1000) (hf : ∀ i, i < n → f i < n) : Ev (fun k => spec_l1Mul.f k (pm n f) (pm n g)) (pm n fun i => g (f i)) := by
  have loop : ∀ d i, i + d = n → Ev (fun k => spec_l1Mul.l0 k (pm n f) (pm n g) (pm i fun i => g (f i)) (i : Int)) (pm n fun i => g (f i)) := by
    intro d
    induction d with
    | zero =>
      intro i hi
      have e : i = n := by omega
      subst e
      exact Ev.step (f := fun _ => some (pm i fun i => g (f i))) (fun k => by rw [spec_l1Mul.l0, if_neg (by rw [pm_length]; omega)]) (Ev.now _)
    | succ d ih =>
      intro i hi
      have hfi := hf i (by omega)
      refine Ev.step (f := fun k => spec_l1Mul.l0 k (pm n f) (pm n g) (pm (i + 1) fun i => g (f i)) ((i + 1 : Nat) : Int)) (fun k => by
        rw [spec_l1Mul.l0, if_pos (by rw [pm_length]; omega), if_pos (by omega), rd_pm (by omega), if_pos (by omega), if_pos (by rw [pm_length]; omega), if_pos (by rw [pm_length]; omega), wrap_nat (by omega), rd_pm hfi]
        simp [pm, List.range_succ]) (ih (i + 1) (by omega))
  unfold spec_l1Mul.f
  exact loop n 0 (by omega)

theorem back_end {n : Nat} {f : Nat → Nat} (hf : Bij n f) {s : List Int} (hs : s.length = n) (h : ∀ j, j < n → rd s (f j : Int) = (j : Int)) : s = pm n (finv n f) := by
  refine eq_pm' hs fun y hy => ?_
  obtain ⟨h1, h2⟩ := finv_spec hf hy
  have := h _ h1
  rwa [h2] at this

theorem back_step {n : Nat} {f : Nat → Nat} (hf : Bij n f) {s : List Int} (hs : s.length = n) {i : Nat} (hi : i < n) (h : ∀ j, j < i → rd s (f j : Int) = (j : Int)) : ∀ j, j < i + 1 → rd (s.set (f i) (i : Int)) (f j : Int) = (j : Int) := by
  intro j hj
  rw [rd_set (by have := hf.1 i hi; omega)]
  by_cases e : i = j
  · subst e; rw [if_pos rfl]
  · rw [if_neg (fun d => e (hf.2 i j hi (by omega) d))]; exact h j (by omega)

theorem back_ev {n : Nat} {f : Nat → Nat} (hn : n ≤ 1000) (hf : Bij n f) : Ev (fun k => impl_back.f k (pm n f)) (pm n (finv n f)) := by
  have loop : ∀ d i (s : List Int), i + d = n → s.length = n → (∀ j, j < i → rd s (f j : Int) = (j : Int)) → Ev (fun k => impl_back.l0 k s (pm n f) (n : Int) (i : Int)) (pm n (finv n f)) := by
    intro d
    induction d with
    | zero =>
      intro i s hi hs h
      refine Ev.step (f := fun _ => some s) (fun k => by rw [impl_back.l0, if_neg (by omega)]) ?_
      rw [back_end hf hs (fun j hj => h j (by omega))]
      exact Ev.now _
    | succ d ih =>
      intro i s hi hs h
      have hfi := hf.1 i (by omega)
      refine Ev.step (f := fun k => impl_back.l0 k (s.set (f i) (i : Int)) (pm n f) (n : Int) ((i + 1 : Nat) : Int)) (fun k => by
        rw [impl_back.l0, if_pos (by omega), if_pos (by omega), if_pos (by rw [pm_length]; omega), rd_pm (by omega), if_pos (by omega), if_pos (by omega), wrap_nat (by omega)]; rfl) ?_
      exact ih (i + 1) _ (by omega) (by simp [hs]) (back_step hf hs (by omega) h)
  unfold impl_back.f
  simp only [pm_length]
  refine Ev.pos (by omega) (Ev.pos (by omega) ?_)
  have := loop n 0 (List.replicate n 0) (by omega) (by simp) (fun j hj => absurd hj (by omega))
  simpa using this

theorem l1Back_ev {n : Nat} {f : Nat → Nat} (hn : n ≤ 1000) (hf : Bij n f) : Ev (fun k => spec_l1Back.f k (pm n f)) (pm n (finv n f)) := by
  have loop : ∀ d i (s : List Int), i + d = n → s.length = n → (∀ j, j < i → rd s (f j : Int) = (j : Int)) → Ev (fun k => spec_l1Back.l0 k (pm n f) s (i : Int)) (pm n (finv n f)) := by
    intro d
    induction d with
    | zero =>
      intro i s hi hs h
      refine Ev.step (f := fun _ => some s) (fun k => by rw [spec_l1Back.l0, if_neg (by rw [pm_length]; omega)]) ?_
      rw [back_end hf hs (fun j hj => h j (by omega))]
      exact Ev.now _
    | succ d ih =>
      intro i s hi hs h
      have hfi := hf.1 i (by omega)
      refine Ev.step (f := fun k => spec_l1Back.l0 k (pm n f) (s.set (f i) (i : Int)) ((i + 1 : Nat) : Int)) (fun k => by
        rw [spec_l1Back.l0, if_pos (by rw [pm_length]; omega), if_pos (by omega), rd_pm (by omega), if_pos (by omega), if_pos (by omega), wrap_nat (by omega)]; rfl) ?_
      exact ih (i + 1) _ (by omega) (by simp [hs]) (back_step hf hs (by omega) h)
  unfold spec_l1Back.f
  simp only [pm_length]
  refine Ev.pos (by omega) (Ev.pos (by omega) ?_)
  have := loop n 0 (List.replicate n 0) (by omega) (by simp) (fun j hj => absurd hj (by omega))
  simpa using this

theorem finv_congr {n : Nat} {f g : Nat → Nat} (h : ∀ i, i < n → f i = g i) : finv n f = finv n g := by
  funext y
  unfold finv
  congr 1
  have : ∀ l : List Nat, (∀ i, i ∈ l → i < n) → l.find? (fun i => f i == y) = l.find? (fun i => g i == y) := by
    intro l
    induction l with
    | nil => intro _; rfl
    | cons a l ih => intro hl; simp only [List.find?_cons]; rw [h a (hl a (by simp)), ih (fun i hi => hl i (by simp [hi]))]
  exact this _ (fun i hi => by simpa using hi)

theorem isPerm_rd {n : Nat} {a : List Int} {f : Nat → Nat} (h : IsPerm n a f) : ∀ i, i < n → (rd a (i : Int)).toNat = f i := by
  intro i hi; rw [h.2.2.2, rd_pm hi]; simp

theorem isPerm_len {n : Nat} {a : List Int} {f : Nat → Nat} (h : IsPerm n a f) : a.length = n := by rw [h.2.2.2, pm_length]

theorem isPerm_valid {n : Nat} {a : List Int} {f : Nat → Nat} (h : IsPerm n a f) : impl_PermValid.validB a = true :=
  (valid_iff a).2 ⟨f, by rw [isPerm_len h]; exact h⟩

theorem it_congr {n : Nat} {f g : Nat → Nat} (hf : Bij n f) (h : ∀ i, i < n → f i = g i) (m : Nat) {x : Nat} (hx : x < n) : it f m x = it g m x := by
  induction m with
  | zero => rfl
  | succ m ih => show f (it f m x) = g (it g m x); rw [← ih, h _ (it_lt hf m hx)]

def pw (n : Nat) (f : Nat → Nat) (k : Int) : Nat → Nat := if k < 0 then it (finv n f) (-k).toNat else it f k.toNat

noncomputable def powerR (a : List Int) (k : Int) : List Int × Bool := if impl_PermValid.validB a = true ∧ -1000 ≤ k ∧ k ≤ 1000 then (pm a.length (pw a.length (fun i => (rd a (i : Int)).toNat) k), true) else ([], false)

theorem pw_congr {n : Nat} {f g : Nat → Nat} (hf : Bij n f) (h : ∀ i, i < n → f i = g i) (k : Int) : ∀ x, x < n → pw n f k x = pw n g k x := by
  intro x hx
  unfold pw
  rw [finv_congr h]
  split
  · rfl
  · exact it_congr hf h _ hx

theorem powerR_perm {n : Nat} {a : List Int} {f : Nat → Nat} (h : IsPerm n a f) (k : Int) (h1 : -1000 ≤ k) (h2 : k ≤ 1000) : powerR a k = (pm n (pw n f k), true) := by
  unfold powerR
  rw [if_pos ⟨isPerm_valid h, h1, h2⟩, isPerm_len h]
  congr 1
  rw [pm_ext]
  intro i hi
  exact (pw_congr h.2.2.1 (fun i hi => (isPerm_rd h i hi).symm) k i hi).symm

theorem powerR_no {a : List Int} {k : Int} (h : ¬ (impl_PermValid.validB a = true ∧ -1000 ≤ k ∧ k ≤ 1000)) : powerR a k = ([], false) := by
  unfold powerR; rw [if_neg h]

theorem implPower_ev (a : List Int) (k : Int) : Ev (fun q => impl_PermPower.f q a k) (powerR a k) := by
  unfold impl_PermPower.f
  refine Ev.bind1 (implValid_ev a) ?_
  have no : powerR a k = ([], false) → Ev (fun q => impl_PermPower.j0 q a k true) (powerR a k) := fun e => by
    rw [e]
    exact Ev.step (f := fun _ => some ([], false)) (fun k => by rw [impl_PermPower.j0, if_pos rfl]) (Ev.now _)
  by_cases c : impl_PermValid.validB a = true
  · refine Ev.pos c ?_
    by_cases c1 : k < -1000
    · exact Ev.pos c1 (no (powerR_no (by omega)))
    · refine Ev.neg c1 ?_
      by_cases c2 : k > 1000
      · have e : decide (k > 1000) = true := decide_eq_true c2
        rw [e]
        exact no (powerR_no (by omega))
      · have e : decide (k > 1000) = false := decide_eq_false c2
        rw [e]
        obtain ⟨f, hf⟩ := (valid_iff a).1 c
        obtain ⟨n, en⟩ : ∃ n, n = a.length := ⟨_, rfl⟩
        rw [← en] at hf
        have h12 := hf.2.1
        rw [powerR_perm hf k (by omega) (by omega)]
        refine Ev.step (fun q => by rw [impl_PermPower.j0]) ?_
        refine Ev.neg (by simp) ?_
        rw [hf.2.2.2, pm_length]
        by_cases c3 : k < 0
        · refine Ev.pos c3 (Ev.bind1 (back_ev (by omega) hf.2.2.1) (Ev.bind1 (still_ev (by omega)) ?_))
          obtain ⟨m, em⟩ : ∃ m : Nat, (m : Int) = -k := ⟨(-k).toNat, by omega⟩
          have hb := finv_bij hf.2.2.1
          have loop : ∀ d i, i + d = m → Ev (fun q => impl_PermPower.l0 q (pm n (finv n f)) (pm n (it (finv n f) i)) (m : Int) (i : Int)) (pm n (it (finv n f) m), true) := by
            intro d
            induction d with
            | zero =>
              intro i hi
              have e : i = m := by omega
              subst e
              exact Ev.step (f := fun _ => some (pm n (it (finv n f) i), true)) (fun q => by rw [impl_PermPower.l0, if_neg (by omega)]) (Ev.now _)
            | succ d ih =>
              intro i hi
              refine Ev.step (fun q => by rw [impl_PermPower.l0]) (Ev.pos (by omega) (Ev.bind1 (mul_ev (by omega) (it_bij hb i).1) ?_))
              rw [wrap_nat (by omega)]
              exact ih (i + 1) (by omega)
          rw [wrap_in (by omega) (by omega), ← em]
          have := loop m 0 (by omega)
          have ep : pw n f k = it (finv n f) m := by
            unfold pw; rw [if_pos c3, show (-k).toNat = m by omega]
          rw [ep]
          exact this
        · refine Ev.neg c3 (Ev.bind1 (still_ev (by omega)) ?_)
          obtain ⟨m, em⟩ : ∃ m : Nat, (m : Int) = k := ⟨k.toNat, by omega⟩
          have loop : ∀ d i, i + d = m → Ev (fun q => impl_PermPower.l1 q (pm n f) (pm n (it f i)) (m : Int) (i : Int)) (pm n (it f m), true) := by
            intro d
            induction d with
            | zero =>
              intro i hi
              have e : i = m := by omega
              subst e
              exact Ev.step (f := fun _ => some (pm n (it f i), true)) (fun q => by rw [impl_PermPower.l1, if_neg (by omega)]) (Ev.now _)
            | succ d ih =>
              intro i hi
              refine Ev.step (fun q => by rw [impl_PermPower.l1]) (Ev.pos (by omega) (Ev.bind1 (mul_ev (by omega) (it_bij hf.2.2.1 i).1) ?_))
              rw [wrap_nat (by omega)]
              exact ih (i + 1) (by omega)
          have := loop m 0 (by omega)
          have ep : pw n f k = it f m := by
            unfold pw; rw [if_neg c3, show k.toNat = m by omega]
          rw [ep, ← em]
          exact this
  · exact Ev.neg c (no (powerR_no (fun e => c e.1)))

theorem l6In_eq (a b c : Int) : spec_l6In.f a b c = some (decide (b ≤ a ∧ a ≤ c)) := by
  unfold spec_l6In.f
  by_cases h : b ≤ a
  · rw [if_pos h]; simp [h]
  · rw [if_neg h]; simp [h]

theorem specPower_pos {n : Nat} {a : List Int} {f : Nat → Nat} (h : IsPerm n a f) (k : Int) (h1 : 0 ≤ k) (h2 : k ≤ 1000) : Ev (fun q => spec_PermPower.f q a k) (pm n (it f k.toNat), true) := by
  have h12 := h.2.1
  have el := isPerm_len h
  refine Ev.step (fun q => by rw [spec_PermPower.f]) (Ev.bind1 (specValid_ev a (by omega)) (Ev.pos (isPerm_valid h) ?_))
  simp only [l6In_eq, Option.bind_some]
  have e : decide (-1000 ≤ k ∧ k ≤ 1000) = true := decide_eq_true ⟨by omega, h2⟩
  rw [e]
  refine Ev.step (fun q => by rw [spec_PermPower.j0]) (Ev.neg (by simp) (Ev.neg (by omega) ?_))
  rw [h.2.2.2, pm_length]
  refine Ev.bind1 (l1Same_ev (by omega)) ?_
  obtain ⟨m, em⟩ : ∃ m : Nat, (m : Int) = k := ⟨k.toNat, by omega⟩
  have loop : ∀ d i, i + d = m → Ev (fun q => spec_PermPower.l0 q (pm n f) (m : Int) (pm n (it f i)) (i : Int)) (pm n (it f m), true) := by
    intro d
    induction d with
    | zero =>
      intro i hi
      have e : i = m := by omega
      subst e
      exact Ev.step (f := fun _ => some (pm n (it f i), true)) (fun q => by rw [spec_PermPower.l0, if_neg (by omega)]) (Ev.now _)
    | succ d ih =>
      intro i hi
      refine Ev.step (fun q => by rw [spec_PermPower.l0]) (Ev.pos (by omega) (Ev.bind1 (l1Mul_ev (by omega) (it_bij h.2.2.1 i).1) ?_))
      rw [wrap_nat (by omega)]
      exact ih (i + 1) (by omega)
  have := loop m 0 (by omega)
  rw [← em, Int.toNat_natCast]
  exact this

theorem specPower_ev {a : List Int} (ha : a.length ≤ 4294967296) (k : Int) : Ev (fun q => spec_PermPower.f q a k) (powerR a k) := by
  have no : powerR a k = ([], false) → Ev (fun q => spec_PermPower.j0 q a k true) (powerR a k) := fun e => by
    rw [e]
    exact Ev.step (f := fun _ => some ([], false)) (fun k => by rw [spec_PermPower.j0, if_pos rfl]) (Ev.now _)
  by_cases c : impl_PermValid.validB a = true
  · by_cases c1 : -1000 ≤ k ∧ k ≤ 1000
    · obtain ⟨f, hf⟩ := (valid_iff a).1 c
      obtain ⟨n, en⟩ : ∃ n, n = a.length := ⟨_, rfl⟩
      rw [← en] at hf
      have h12 := hf.2.1
      rw [powerR_perm hf k c1.1 c1.2]
      by_cases c3 : k < 0
      · refine Ev.step (fun q => by rw [spec_PermPower.f]) (Ev.bind1 (specValid_ev a ha) (Ev.pos c ?_))
        simp only [l6In_eq, Option.bind_some]
        have e : decide (-1000 ≤ k ∧ k ≤ 1000) = true := decide_eq_true c1
        rw [e]
        refine Ev.step (fun q => by rw [spec_PermPower.j0]) (Ev.neg (by simp) (Ev.pos c3 ?_))
        rw [hf.2.2.2]
        have hb : IsPerm n (pm n (finv n f)) (finv n f) := ⟨hf.1, hf.2.1, finv_bij hf.2.2.1, rfl⟩
        have := specPower_pos hb (-k) (by omega) (by omega)
        refine Ev.bind1 (l1Back_ev (by omega) hf.2.2.1) ?_
        rw [wrap_in (by omega) (by omega)]
        refine Ev.bind1 this ?_
        have ep : pw n f k = it (finv n f) (-k).toNat := by unfold pw; rw [if_pos c3]
        rw [ep]
        exact Ev.now _
      · have ep : pw n f k = it f k.toNat := by unfold pw; rw [if_neg c3]
        rw [ep]
        exact specPower_pos hf k (by omega) c1.2
    · have pr := powerR_no (a := a) (k := k) (fun e => c1 e.2)
      refine Ev.step (fun q => by rw [spec_PermPower.f]) (Ev.bind1 (specValid_ev a ha) (Ev.pos c ?_))
      simp only [l6In_eq, Option.bind_some]
      have e : decide (-1000 ≤ k ∧ k ≤ 1000) = false := decide_eq_false c1
      rw [e]
      exact no pr
  · have pr := powerR_no (a := a) (k := k) (fun e => c e.1)
    refine Ev.step (fun q => by rw [spec_PermPower.f]) (Ev.bind1 (specValid_ev a ha) (Ev.neg c ?_))
    exact no pr

theorem powerR_len {a : List Int} {k : Int} (h : a.length ≤ 1048576) : ((powerR a k).1).length ≤ 1048576 := by
  unfold powerR; split
  · rw [pm_length]; exact h
  · simp

/-- The reference and the program agree on powers of permutations, and what they hand back is new memory. -/
theorem FnExactPermPower : laws_FnExactPermPower.Pure := by
  intro l a1 hl1 hl2 hw hk
  refine Ev.rounds ?_
  unfold laws_FnExactPermPower.f
  by_cases c : (l.length : Int) > 1048576
  · exact Ev.pos c (Ev.now _)
  have hl : l.length ≤ 1048576 := by omega
  have hr := powerR_len (k := a1) hl
  refine Ev.neg c (Ev.bind1 (toIntS_ev hl) (Ev.bind1 (specPower_ev (by omega) a1) (Ev.bind1 (toIntS_ev hl) (Ev.bind1 (implPower_ev l a1) (Ev.bind1 (eqIntS_ev hr) (Ev.pos (by simp) ?_))))))
  refine Ev.step (fun k => by rw [laws_FnExactPermPower.j0]) ?_
  refine Ev.neg (by simp) (Ev.bind1 (toIntS_ev hl) (Ev.bind1 (eqIntS_ev hl) (Ev.pos (by simp) (Ev.bind1 (markIntS_ev (by omega) (by omega)) (Ev.neg (by simp; omega) (Ev.bind1 (eqIntS_ev hr) (Ev.pos (by simp) ?_)))))))
  refine Ev.step (fun k => by rw [laws_FnExactPermPower.j1]) ?_
  refine Ev.neg (by simp) (Ev.bind1 (markIntS_ev (by omega) (by omega)) (Ev.bind1 (heldIntS_ev (by omega) (by omega)) (Ev.neg (by omega) (Ev.pos rfl (Ev.bind1 (toIntS_ev hl) (Ev.bind1 (implPower_ev l a1) (Ev.bind1 (eqIntS_ev hr) (Ev.pos (by simp) ?_))))))))
  refine Ev.step (fun k => by rw [laws_FnExactPermPower.j2]) ?_
  exact Ev.neg (by simp) (Ev.bind1 (heldIntS_ev (by omega) (by omega)) (Ev.neg (by omega) (Ev.pos rfl (Ev.now _))))
end Go.Proofs.Ytnpmaaccdpellaa.R
namespace Go.Proofs.Ytnpmaaccdpellaa.Pure
theorem FnExactPermPower : Go.Proofs.Ytnpmaaccdpellaa.F.laws_FnExactPermPower.Pure := Go.Proofs.Ytnpmaaccdpellaa.R.FnExactPermPower
end Go.Proofs.Ytnpmaaccdpellaa.Pure
