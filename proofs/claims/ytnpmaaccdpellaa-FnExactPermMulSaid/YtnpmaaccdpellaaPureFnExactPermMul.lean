/- The reference and the program agree on products of permutations, and what they hand back is new memory. -/
import Derived.Test.YtnpmaaccdpellaaF1
import Derived.Test.YtnpmaaccdpellaaF2
import Derived.Test.YtnpmaaccdpellaaF3
import Derived.Test.YtnpmaaccdpellaaF6
import Derived.Test.YtnpmaaccdpellaaF8
import Derived.Test.YtnpmaaccdpellaaF9
import Derived.Test.YtnpmaaccdpellaaF10
set_option linter.unusedVariables false
set_option linter.unusedSimpArgs false
namespace Go.Proofs.Ytnpmaaccdpellaa.Sm
open List
/-- f permutes the numbers below n. -/
def Bij (n : Nat) (f : Nat → Nat) : Prop := (∀ i, i < n → f i < n) ∧ (∀ i j, i < n → j < n → f i = f j → i = j)

/-- the list of a permutation -/
def pm (n : Nat) (f : Nat → Nat) : List Int := (List.range n).map (fun i => (f i : Int))

theorem pm_length (n : Nat) (f : Nat → Nat) : (pm n f).length = n := by simp [pm]

theorem pm_getD (n : Nat) (f : Nat → Nat) (i : Nat) (h : i < n) : (pm n f).getD i 0 = (f i : Int) := by
  simp [pm, List.getD, h]

theorem eq_pm (n : Nat) (f : Nat → Nat) (l : List Int) (hl : l.length = n) (h : ∀ i, i < n → l.getD i 0 = (f i : Int)) : l = pm n f := by
  apply List.ext_getElem
  · rw [hl, pm_length]
  · intro i h1 h2
    have := h i (by omega)
    have e := pm_getD n f i (by omega)
    simp only [List.getD_eq_getElem?_getD, List.getElem?_eq_getElem h1, Option.getD_some] at this
    simp only [List.getD_eq_getElem?_getD, List.getElem?_eq_getElem h2, Option.getD_some] at e
    rw [this, e]
end Go.Proofs.Ytnpmaaccdpellaa.Sm
namespace Go.Proofs.Ytnpmaaccdpellaa.R
open Go.RowKit Go.Proofs.YtnpmaaccdpellaaW.PrintWords Go.Proofs.YtnpmaaccdpellaaW.PrintLast Go.Proofs.YtnpmaaccdpellaaW.PrintMore Go.Proofs.Ytnpmaaccdpellaa.F Go.Proofs.Ytnpmaaccdpellaa.Sm
theorem Ev.pos {α : Type} {c : Prop} [Decidable c] {A B : Nat → Option α} {r : α} (h : c) (k : Ev A r) : Ev (fun n => if c then A n else B n) r := by
  simp only [if_pos h]; exact k

theorem Ev.neg {α : Type} {c : Prop} [Decidable c] {A B : Nat → Option α} {r : α} (h : ¬ c) (k : Ev B r) : Ev (fun n => if c then A n else B n) r := by
  simp only [if_neg h]; exact k

theorem Ev.bind1 {α β : Type} {g : Nat → Option α} {f : Nat → α → Option β} {a : α} {r : β} (h : Ev g a) (k : Ev (fun n => f n a) r) : Ev (fun n => (g n).bind (f n)) r := Ev.bind h k

theorem wrap_nat {i : Nat} (h : i < 9223372036854775807) : wrap64 ((i : Int) + 1) = ((i + 1 : Nat) : Int) := by unfold wrap64; omega

theorem wrap_in {n : Int} (h1 : -9223372036854775808 ≤ n) (h2 : n ≤ 9223372036854775807) : wrap64 n = n := by unfold wrap64; omega

theorem rd_get {l : List Int} {i : Nat} (h : i < l.length) : rd l (i : Int) = l[i] := by
  unfold rd; simp [h]

theorem rd_pm {n : Nat} {f : Nat → Nat} {i : Nat} (h : i < n) : rd (pm n f) (i : Int) = (f i : Int) := by
  unfold rd; exact pm_getD n f i h

theorem toIntS_loop (l : List Int) (hl : l.length ≤ 1048576) : ∀ d i (s : List Int), i + d = l.length → s.length = l.length → Ev (fun k => laws_toIntS.l0 k l s (i : Int)) (s.take i ++ l.drop i) := by
  intro d
  induction d with
  | zero =>
    intro i s hi hs
    refine Ev.step (f := fun _ => some s) (fun k => by rw [laws_toIntS.l0, if_neg (by omega)]) ?_
    rw [List.take_of_length_le (by omega), List.drop_of_length_le (by omega), List.append_nil]
    exact Ev.now _
  | succ d ih =>
    intro i s hi hs
    refine Ev.step (f := fun k => laws_toIntS.l0 k l (s.set i (rd l i)) ((i + 1 : Nat) : Int)) (fun k => by
      rw [laws_toIntS.l0, if_pos (by omega), if_pos (by omega), if_pos (by omega), wrap_nat (by omega)]; rfl) ?_
    have := ih (i + 1) (s.set i (rd l i)) (by omega) (by simp [hs])
    have e : (s.set i (rd l i)).take (i + 1) ++ l.drop (i + 1) = s.take i ++ l.drop i := by
      rw [List.drop_eq_getElem_cons (show i < l.length by omega), rd_get (by omega)]
      rw [List.take_succ_eq_append_getElem (by simp; omega)]
      rw [List.take_set_of_le (Nat.le_refl i)]
      simp
    rw [e] at this
    exact this

theorem toIntS_ev {l : List Int} (hl : l.length ≤ 1048576) : Ev (fun k => laws_toIntS.f k l) l := by
  unfold laws_toIntS.f
  refine Ev.pos (by omega) (Ev.pos (by omega) ?_)
  have := toIntS_loop l hl l.length 0 (List.replicate l.length 0) (by omega) (by simp)
  simpa using this

theorem eqIntS_loop (a b : List Int) (hl : a.length = b.length) (hb : a.length ≤ 1048576) : ∀ d i, i + d = a.length → Ev (fun k => laws_eqIntS.l0 k a b (i : Int)) (decide (a.drop i = b.drop i)) := by
  intro d
  induction d with
  | zero =>
    intro i hi
    refine Ev.step (f := fun _ => some true) (fun k => by rw [laws_eqIntS.l0, if_neg (by omega)]) ?_
    rw [List.drop_of_length_le (by omega), List.drop_of_length_le (by omega)]
    exact Ev.now _
  | succ d ih =>
    intro i hi
    have ha : i < a.length := by omega
    have hb' : i < b.length := by omega
    rw [List.drop_eq_getElem_cons ha, List.drop_eq_getElem_cons hb']
    by_cases c : a[i] = b[i]
    · refine Ev.step (f := fun k => laws_eqIntS.l0 k a b ((i + 1 : Nat) : Int)) (fun k => by
        rw [laws_eqIntS.l0, if_pos (by omega), if_pos (by omega), if_pos (by omega), rd_get ha, rd_get hb', if_pos c, wrap_nat (by omega)]) ?_
      have e : decide (a[i] :: a.drop (i + 1) = b[i] :: b.drop (i + 1)) = decide (a.drop (i + 1) = b.drop (i + 1)) := by
        simp only [List.cons.injEq, c, true_and]
      rw [e]
      exact ih (i + 1) (by omega)
    · refine Ev.step (f := fun k => some false) (fun k => by
        rw [laws_eqIntS.l0, if_pos (by omega), if_pos (by omega), if_pos (by omega), rd_get ha, rd_get hb', if_neg c]) ?_
      have : decide (a[i] :: a.drop (i + 1) = b[i] :: b.drop (i + 1)) = false := by
        simp only [List.cons.injEq, c, false_and, decide_false]
      rw [this]
      exact Ev.now _

theorem eqIntS_ev {a b : List Int} (hb : a.length ≤ 1048576) : Ev (fun k => laws_eqIntS.f k a b) (decide (a = b)) := by
  unfold laws_eqIntS.f
  by_cases c : a.length = b.length
  · refine Ev.pos (by omega) ?_
    exact eqIntS_loop a b c hb a.length 0 (by omega)
  · have : decide (a = b) = false := by simp; intro e; exact c (by rw [e])
    rw [this]
    exact Ev.neg (by omega) (Ev.now _)

def marks (m : Int) (n : Nat) : List Int := (List.range n).map fun (j : Nat) => m + (j : Int)

theorem marks_length (m : Int) (n : Nat) : (marks m n).length = n := by simp [marks]

theorem markIntS_loop (n : Nat) (m : Int) (hm : 0 ≤ m) (hb : m + n ≤ 9223372036854775807) : ∀ d i (l : List Int), i + d = n → l.length = n → l.take i = marks m i → Ev (fun k => laws_markIntS.l0 k l (m + i) (i : Int)) (m + n, marks m n) := by
  intro d
  induction d with
  | zero =>
    intro i l hi hl ht
    have e : i = n := by omega
    subst e
    refine Ev.step (f := fun _ => some (m + i, l)) (fun k => by rw [laws_markIntS.l0, if_neg (by omega)]) ?_
    rw [List.take_of_length_le (by omega)] at ht
    rw [ht]
    exact Ev.now _
  | succ d ih =>
    intro i l hi hl ht
    refine Ev.step (f := fun k => laws_markIntS.l0 k (l.set i (m + i)) (m + ((i + 1 : Nat) : Int)) ((i + 1 : Nat) : Int)) (fun k => by
      rw [laws_markIntS.l0, if_pos (by omega), if_pos (by omega), wrap_nat (by omega), show wrap64 (m + (i : Int) + 1) = m + ((i + 1 : Nat) : Int) by rw [wrap_in (by omega) (by omega)]; omega]; rfl) ?_
    refine ih (i + 1) _ (by omega) (by simp [hl]) ?_
    rw [List.take_succ_eq_append_getElem (by simp; omega), List.take_set_of_le (Nat.le_refl i), ht]
    simp [marks, List.range_succ]

theorem markIntS_ev {l : List Int} {m : Int} (hm : 0 ≤ m) (hb : m + l.length ≤ 9223372036854775807) : Ev (fun k => laws_markIntS.f k l m) (m + l.length, marks m l.length) := by
  unfold laws_markIntS.f
  have := markIntS_loop l.length m hm hb l.length 0 l (by omega) rfl (by simp [marks])
  simpa using this

theorem heldIntS_loop (n : Nat) (m : Int) (hm : 0 ≤ m) (hb : m + n ≤ 9223372036854775807) : ∀ d i, i + d = n → Ev (fun k => laws_heldIntS.l0 k (marks m n) (m + i) (i : Int)) (m + n) := by
  intro d
  induction d with
  | zero =>
    intro i hi
    have e : i = n := by omega
    subst e
    refine Ev.step (f := fun _ => some (m + i)) (fun k => by rw [laws_heldIntS.l0, if_neg (by rw [marks_length]; omega)]) ?_
    exact Ev.now _
  | succ d ih =>
    intro i hi
    have e : rd (marks m n) (i : Int) = m + i := by
      rw [rd_get (by rw [marks_length]; omega)]; simp [marks]
    refine Ev.step (f := fun k => laws_heldIntS.l0 k (marks m n) (m + ((i + 1 : Nat) : Int)) ((i + 1 : Nat) : Int)) (fun k => by
      rw [laws_heldIntS.l0, if_pos (by rw [marks_length]; omega), if_pos (by omega), if_pos e, wrap_nat (by omega), show wrap64 (m + (i : Int) + 1) = m + ((i + 1 : Nat) : Int) by rw [wrap_in (by omega) (by omega)]; omega]) ?_
    exact ih (i + 1) (by omega)

theorem heldIntS_ev {n : Nat} {m : Int} (hm : 0 ≤ m) (hb : m + n ≤ 9223372036854775807) : Ev (fun k => laws_heldIntS.f k (marks m n) m) (m + n) := by
  unfold laws_heldIntS.f
  have := heldIntS_loop n m hm hb n 0 (by omega)
  simpa using this

/-- a list that is a permutation -/
def IsPerm (n : Nat) (l : List Int) (f : Nat → Nat) : Prop := 1 ≤ n ∧ n ≤ 12 ∧ Bij n f ∧ l = pm n f

theorem valid_iff (l : List Int) : impl_PermValid.validB l = true ↔ ∃ f, IsPerm l.length l f := by
  unfold impl_PermValid.validB
  simp only [Bool.and_eq_true, decide_eq_true_eq, List.all_eq_true, List.mem_range]
  constructor
  · rintro ⟨⟨h1, h2⟩, h3⟩
    have h3' : ∀ i, i < l.length → 0 ≤ rd l i ∧ rd l i < l.length ∧ ∀ j, j < i → rd l j ≠ rd l i := by
      intro i hi
      have := h3 i hi
      unfold impl_PermValid.okAt at this
      simp only [Bool.and_eq_true, decide_eq_true_eq, Bool.not_eq_true', List.contains_eq_mem, decide_eq_false_iff_not] at this
      refine ⟨this.1.1, this.1.2, fun j hj e => this.2 ?_⟩
      rw [← e, rd_get (show j < l.length by omega)]
      rw [List.mem_iff_getElem]
      exact ⟨j, by simp; omega, by simp⟩
    refine ⟨fun i => (rd l i).toNat, h1, h2, ⟨fun i hi => by have := h3' i hi; show (rd l i).toNat < _; omega, fun i j hi hj e => ?_⟩, ?_⟩
    · have a := h3' i hi
      have b := h3' j hj
      have e' : (rd l i).toNat = (rd l j).toNat := e
      rcases Nat.lt_trichotomy i j with c | c | c
      · exact (b.2.2 i c (by omega)).elim
      · exact c
      · exact (a.2.2 j c (by omega)).elim
    · refine eq_pm _ _ _ rfl fun i hi => ?_
      have := h3' i hi
      show l.getD i 0 = (((rd l i).toNat : Nat) : Int)
      have e : l.getD i 0 = rd l i := rfl
      omega
  · rintro ⟨f, h1, h2, hf, e⟩
    refine ⟨⟨h1, h2⟩, fun i hi => ?_⟩
    have r : ∀ j, j < l.length → rd l j = (f j : Int) := fun j hj => by
      have := rd_pm (n := l.length) (f := f) hj
      rwa [← e] at this
    unfold impl_PermValid.okAt
    simp only [Bool.and_eq_true, decide_eq_true_eq, Bool.not_eq_true', List.contains_eq_mem, decide_eq_false_iff_not]
    refine ⟨⟨by rw [r i hi]; omega, by rw [r i hi]; have := hf.1 i hi; omega⟩, fun hm => ?_⟩
    rw [List.mem_iff_getElem] at hm
    obtain ⟨j, hj, ej⟩ := hm
    have hj' : j < i := by simp at hj; omega
    have : l[j]'(by omega) = rd l i := by simpa using ej
    rw [← rd_get (show j < l.length by omega), r i hi, r j (by omega)] at this
    have := hf.2 j i (by omega) hi (by omega)
    omega

theorem implValid_ev (l : List Int) : Ev (fun _ => impl_PermValid.f l) (impl_PermValid.validB l) := Ev.now _

/-- the reference's look: up to i all is well -/
theorem specValid_ev (l : List Int) (hl : l.length ≤ 4294967296) : Ev (fun k => spec_PermValid.f k l) (impl_PermValid.validB l) := by
  have e0 : ∀ (a b c : Int), spec_l6In.f a b c = some (decide (b ≤ a) && decide (a ≤ c)) := by
    intro a b c
    unfold spec_l6In.f
    by_cases h : b ≤ a
    · rw [if_pos h]; simp [h]
    · rw [if_neg h]; simp [h]
  -- the inner loop
  have inner : ∀ d i j, i < l.length → j + d = i → (∀ m, m < j → rd l m ≠ rd l i) → ∀ r, ((∀ m, m < i → rd l m ≠ rd l i) → Ev (fun k => spec_PermValid.l0 k l ((i + 1 : Nat) : Int)) r) → ((∃ m, m < i ∧ rd l m = rd l i) → r = false) → Ev (fun k => spec_PermValid.l1 k l (i : Int) (j : Int)) r := by
    intro d
    induction d with
    | zero =>
      intro i j hi hj hm r h1 h2
      refine Ev.step (f := fun k => spec_PermValid.l0 k l ((i + 1 : Nat) : Int)) (fun k => by rw [spec_PermValid.l1, if_neg (by omega), wrap_nat (by omega)]) ?_
      exact h1 (fun m hmi => hm m (by omega))
    | succ d ih =>
      intro i j hi hj hm r h1 h2
      by_cases c : rd l (j : Int) = rd l (i : Int)
      · have := h2 ⟨j, by omega, c⟩
        subst this
        refine Ev.step (f := fun k => some false) (fun k => by
          rw [spec_PermValid.l1, if_pos (by omega), if_pos (by omega), if_pos (by omega), if_pos (by omega), if_pos (by omega), if_pos c]) (Ev.now _)
      · refine Ev.step (f := fun k => spec_PermValid.l1 k l (i : Int) ((j + 1 : Nat) : Int)) (fun k => by
          rw [spec_PermValid.l1, if_pos (by omega), if_pos (by omega), if_pos (by omega), if_pos (by omega), if_pos (by omega), if_neg c, wrap_nat (by omega)]) ?_
        refine ih i (j + 1) hi (by omega) (fun m hm' => ?_) r h1 h2
        by_cases e : m = j
        · subst e; exact c
        · exact hm m (by omega)
  have outer : ∀ d i, i + d = l.length → (∀ m, m < i → impl_PermValid.okAt l m = true) → Ev (fun k => spec_PermValid.l0 k l (i : Int)) (impl_PermValid.validB l) := by
    intro d
    induction d with
    | zero =>
      intro i hi hm
      have e : impl_PermValid.validB l = (decide ((1 : Int) ≤ (l.length : Int)) && decide ((l.length : Int) ≤ 12)) := by
        unfold impl_PermValid.validB
        have : (List.range l.length).all (impl_PermValid.okAt l) = true := by
          rw [List.all_eq_true]; intro m hm'; exact hm m (by have := List.mem_range.1 hm'; omega)
        rw [this]
        rw [Bool.and_true]
        congr 1
        · simp; omega
        · simp; omega
      refine Ev.step (f := fun _ => some (impl_PermValid.validB l)) (fun k => by rw [spec_PermValid.l0, if_neg (by omega), e0, e]; rfl) (Ev.now _)
    | succ d ih =>
      intro i hi hm
      have hil : i < l.length := by omega
      have fail : impl_PermValid.okAt l i = false → impl_PermValid.validB l = false := impl_PermValid.valid_fail l i hil
      have ew : wrap64 ((l.length : Int) - 1) = (l.length : Int) - 1 := wrap_in (by omega) (by omega)
      by_cases c : 0 ≤ rd l (i : Int) ∧ rd l (i : Int) ≤ (l.length : Int) - 1
      · refine Ev.step (f := fun k => spec_PermValid.l1 k l (i : Int) ((0 : Nat) : Int)) (fun k => by
          rw [spec_PermValid.l0, if_pos (by omega), if_pos (by omega), e0, ew]
          simp only [Option.bind_some]
          rw [if_pos (by simp [c.1, c.2])]; rfl) ?_
        refine inner i i 0 hil (by omega) (fun m hm' => absurd hm' (by omega)) _ (fun hd => ?_) (fun hd => ?_)
        · refine ih (i + 1) (by omega) (fun m hm' => ?_)
          by_cases e : m = i
          · subst e
            unfold impl_PermValid.okAt
            simp only [Bool.and_eq_true, decide_eq_true_eq, Bool.not_eq_true', List.contains_eq_mem, decide_eq_false_iff_not]
            refine ⟨⟨c.1, by omega⟩, fun hx => ?_⟩
            rw [List.mem_iff_getElem] at hx
            obtain ⟨j, hj, ej⟩ := hx
            have hj' : j < m := by simp at hj; omega
            have : l[j]'(by omega) = rd l m := by simpa using ej
            rw [← rd_get (show j < l.length by omega)] at this
            exact hd j hj' this
          · exact hm m (by omega)
        · obtain ⟨m, hmi, em⟩ := hd
          apply fail
          unfold impl_PermValid.okAt
          have : (l.take i).contains (rd l i) = true := by
            rw [List.contains_eq_mem, decide_eq_true_eq, ← em, rd_get (show m < l.length by omega), List.mem_iff_getElem]
            exact ⟨m, by simp; omega, by simp⟩
          simp only [this, Bool.not_true, Bool.and_false]
      · have : impl_PermValid.validB l = false := by
          apply fail
          unfold impl_PermValid.okAt
          by_cases c1 : 0 ≤ rd l (i : Int)
          · have : ¬ rd l (i : Int) < l.length := by omega
            simp [this]
          · simp [c1]
        rw [this]
        refine Ev.step (f := fun k => some false) (fun k => by
          rw [spec_PermValid.l0, if_pos (by omega), if_pos (by omega), e0, ew]
          simp only [Option.bind_some]
          rw [if_neg]
          simp only [Bool.and_eq_true, decide_eq_true_eq]
          exact c) (Ev.now _)
  unfold spec_PermValid.f
  exact outer l.length 0 (by omega) (fun m hm => absurd hm (by omega))

theorem rd_set {s : List Int} {a b : Nat} {v : Int} (h : a < s.length) : rd (s.set a v) (b : Int) = if a = b then v else rd s (b : Int) := by
  unfold rd
  simp only [Int.toNat_natCast, List.getD_eq_getElem?_getD, List.getElem?_set]
  by_cases e : a = b
  · subst e; simp [h]
  · simp [e]

theorem eq_pm' {n : Nat} {f : Nat → Nat} {l : List Int} (hl : l.length = n) (h : ∀ i, i < n → rd l (i : Int) = (f i : Int)) : l = pm n f :=
  eq_pm n f l hl fun i hi => by have := h i hi; unfold rd at this; simpa using this

theorem mul_ev {n : Nat} {f g : Nat → Nat} (hn : n ≤ 1000) (hf : ∀ i, i < n → f i < n) : Ev (fun k => impl_mul.f k (pm n f) (pm n g)) (pm n fun i => g (f i)) := by
  have loop : ∀ d i (s : List Int), i + d = n → s.length = n → (∀ j, j < i → rd s (j : Int) = (g (f j) : Int)) → Ev (fun k => impl_mul.l0 k (pm n g) s (pm n f) (n : Int) (i : Int)) (pm n fun i => g (f i)) := by
    intro d
    induction d with
    | zero =>
      intro i s hi hs h
      refine Ev.step (f := fun _ => some s) (fun k => by rw [impl_mul.l0, if_neg (by omega)]) ?_
      rw [eq_pm' (f := fun i => g (f i)) hs (fun j hj => h j (by omega))]
      exact Ev.now _
    | succ d ih =>
      intro i s hi hs h
      have hfi := hf i (by omega)
      refine Ev.step (f := fun k => impl_mul.l0 k (pm n g) (s.set i (g (f i) : Int)) (pm n f) (n : Int) ((i + 1 : Nat) : Int)) (fun k => by
        rw [impl_mul.l0, if_pos (by omega), if_pos (by omega), if_pos (by rw [pm_length]; omega), rd_pm (by omega), if_pos (by omega), if_pos (by rw [pm_length]; omega), if_pos (by omega), wrap_nat (by omega), rd_pm hfi]; rfl) ?_
      refine ih (i + 1) _ (by omega) (by simp [hs]) (fun j hj => ?_)
      rw [rd_set (by omega)]
      by_cases e : i = j
      · rw [if_pos e, e]
      · rw [if_neg e]; exact h j (by omega)
  unfold impl_mul.f
  simp only [pm_length]
  refine Ev.pos (by omega) (Ev.pos (by omega) ?_)
  have := loop n 0 (List.replicate n 0) (by omega) (by simp) (fun j hj => absurd hj (by omega))
  simpa using this

theorem l1Mul_ev {n : Nat} {f g : Nat → Nat} (hn : n ≤ 1000) (hf : ∀ i, i < n → f i < n) : Ev (fun k => spec_l1Mul.f k (pm n f) (pm n g)) (pm n fun i => g (f i)) := by
  have loop : ∀ d i, i + d = n → Ev (fun k => spec_l1Mul.l0 k (pm n f) (pm n g) (pm i fun i => g (f i)) (i : Int)) (pm n fun i => g (f i)) := by
    intro d
    induction d with
    | zero =>
      intro i hi
      have e : i = n := by omega
      subst e
      exact Ev.step (f := fun _ => some (pm i fun i => g (f i))) (fun k => by rw [spec_l1Mul.l0, if_neg (by rw [pm_length]; omega)]) (Ev.now _)
    | succ d ih =>
      intro i hi
      have hfi := hf i (by omega)
      refine Ev.step (f := fun k => spec_l1Mul.l0 k (pm n f) (pm n g) (pm (i + 1) fun i => g (f i)) ((i + 1 : Nat) : Int)) (fun k => by
        rw [spec_l1Mul.l0, if_pos (by rw [pm_length]; omega), if_pos (by omega), rd_pm (by omega), if_pos (by omega), if_pos (by rw [pm_length]; omega), if_pos (by rw [pm_length]; omega), wrap_nat (by omega), rd_pm hfi]
        simp [pm, List.range_succ]) (ih (i + 1) (by omega))
  unfold spec_l1Mul.f
  exact loop n 0 (by omega)

/-- two lists that are permutations of as many points -/
def both (a b : List Int) : Bool := impl_PermValid.validB a && impl_PermValid.validB b && decide (a.length = b.length)

theorem both_iff (a b : List Int) : both a b = true ↔ ∃ n f g, IsPerm n a f ∧ IsPerm n b g := by
  unfold both
  simp only [Bool.and_eq_true, decide_eq_true_eq, valid_iff]
  constructor
  · rintro ⟨⟨⟨f, hf⟩, g, hg⟩, e⟩
    rw [← e] at hg
    exact ⟨_, f, g, hf, hg⟩
  · rintro ⟨n, f, g, hf, hg⟩
    have e1 : a.length = n := by rw [hf.2.2.2, pm_length]
    have e2 : b.length = n := by rw [hg.2.2.2, pm_length]
    rw [e1, e2]
    exact ⟨⟨⟨f, hf⟩, g, hg⟩, rfl⟩

theorem l1Both_ev {a b : List Int} (ha : a.length ≤ 4294967296) (hb : b.length ≤ 4294967296) : Ev (fun k => spec_l1Both.f k a b) (both a b) := by
  unfold spec_l1Both.f both
  refine Ev.bind1 (specValid_ev a ha) ?_
  cases c : impl_PermValid.validB a with
  | false => exact Ev.neg (by simp) (Ev.now _)
  | true =>
    refine Ev.pos rfl (Ev.bind1 (specValid_ev b hb) ?_)
    cases d : impl_PermValid.validB b with
    | false => exact Ev.neg (by simp) (Ev.now _)
    | true =>
      refine Ev.pos rfl ?_
      have : ((a.length : Int) == (b.length : Int)) = (true && true && decide (a.length = b.length)) := by
        by_cases e : a.length = b.length
        · simp [e]
        · have : ¬ (a.length : Int) = (b.length : Int) := by omega
          simp [e, this]
      rw [this]
      exact Ev.now _

/-- the product, or no answer -/
noncomputable def mulR (a b : List Int) : List Int × Bool := if both a b = true then (a.map (fun x => rd b x), true) else ([], false)

theorem pm_map {n : Nat} {f g : Nat → Nat} (hf : ∀ i, i < n → f i < n) : (pm n f).map (fun x => rd (pm n g) x) = pm n fun i => g (f i) := by
  unfold pm
  rw [List.map_map]
  apply List.map_congr_left
  intro i hi
  show rd (pm n g) ((f i : Nat) : Int) = _
  rw [rd_pm (hf i (by simpa using hi))]

theorem specMul_ev {a b : List Int} (ha : a.length ≤ 4294967296) (hb : b.length ≤ 4294967296) : Ev (fun k => spec_PermMul.f k a b) (mulR a b) := by
  unfold spec_PermMul.f mulR
  refine Ev.bind1 (l1Both_ev ha hb) ?_
  by_cases c : both a b = true
  · rw [if_pos c]
    refine Ev.pos c ?_
    obtain ⟨n, f, g, hf, hg⟩ := (both_iff a b).1 c
    rw [hf.2.2.2, hg.2.2.2, pm_map hf.2.2.1.1]
    exact Ev.bind1 (l1Mul_ev (by have := hf.2.1; omega) hf.2.2.1.1) (Ev.now _)
  · rw [if_neg c]
    exact Ev.neg c (Ev.now _)

theorem implMul_ev (a b : List Int) : Ev (fun k => impl_PermMul.f k a b) (mulR a b) := by
  unfold impl_PermMul.f mulR
  refine Ev.bind1 (implValid_ev a) ?_
  by_cases c : both a b = true
  · rw [if_pos c]
    obtain ⟨n, f, g, hf, hg⟩ := (both_iff a b).1 c
    have c1 : impl_PermValid.validB a = true := by unfold both at c; simp only [Bool.and_eq_true] at c; exact c.1.1
    have c2 : impl_PermValid.validB b = true := by unfold both at c; simp only [Bool.and_eq_true] at c; exact c.1.2
    have c3 : a.length = b.length := by unfold both at c; simp only [Bool.and_eq_true, decide_eq_true_eq] at c; exact c.2
    refine Ev.pos c1 (Ev.bind1 (implValid_ev b) (Ev.pos c2 (Ev.pos (by omega) ?_)))
    rw [hf.2.2.2, hg.2.2.2, pm_map hf.2.2.1.1]
    exact Ev.bind1 (mul_ev (by have := hf.2.1; omega) hf.2.2.1.1) (Ev.now _)
  · rw [if_neg c]
    by_cases c1 : impl_PermValid.validB a = true
    · refine Ev.pos c1 (Ev.bind1 (implValid_ev b) ?_)
      by_cases c2 : impl_PermValid.validB b = true
      · refine Ev.pos c2 (Ev.neg (fun e => c ?_) (Ev.now _))
        unfold both
        have : a.length = b.length := by omega
        simp [c1, c2, this]
      · exact Ev.neg c2 (Ev.now _)
    · exact Ev.neg c1 (Ev.now _)

theorem mulR_len {a b : List Int} (h : a.length ≤ 1048576) : ((mulR a b).1).length ≤ 1048576 := by
  unfold mulR; split
  · simpa using h
  · simp

/-- The reference and the program agree on products of permutations, and what they hand back is new memory. -/
theorem FnExactPermMul : laws_FnExactPermMul.Pure := by
  intro l l' hl1 hl2 hw hl1' hl2' hw'
  refine Ev.rounds ?_
  unfold laws_FnExactPermMul.f
  by_cases c : (l.length : Int) > 1048576
  · exact Ev.pos c (Ev.now _)
  refine Ev.neg c ?_
  by_cases c' : (l'.length : Int) > 1048576
  · exact Ev.pos c' (Ev.now _)
  refine Ev.neg c' ?_
  have hl : l.length ≤ 1048576 := by omega
  have hl' : l'.length ≤ 1048576 := by omega
  have hr := mulR_len (b := l') hl
  refine Ev.bind1 (toIntS_ev hl) (Ev.bind1 (toIntS_ev hl') (Ev.bind1 (specMul_ev (by omega) (by omega)) (Ev.bind1 (toIntS_ev hl) (Ev.bind1 (toIntS_ev hl') (Ev.bind1 (implMul_ev l l') (Ev.bind1 (eqIntS_ev hr) (Ev.pos (by simp) ?_)))))))
  refine Ev.step (fun k => by rw [laws_FnExactPermMul.j0]) ?_
  refine Ev.neg (by simp) (Ev.bind1 (toIntS_ev hl) (Ev.bind1 (eqIntS_ev hl) (Ev.pos (by simp) (Ev.bind1 (toIntS_ev hl') (Ev.bind1 (eqIntS_ev hl') (Ev.pos (by simp) (Ev.bind1 (markIntS_ev (by omega) (by omega)) (Ev.bind1 (markIntS_ev (by simp; omega) (by simp; omega)) (Ev.neg (by simp; omega) (Ev.bind1 (eqIntS_ev hr) (Ev.pos (by simp) ?_)))))))))))
  refine Ev.step (fun k => by rw [laws_FnExactPermMul.j1]) ?_
  refine Ev.neg (by simp) (Ev.bind1 (markIntS_ev (by omega) (by omega)) (Ev.bind1 (heldIntS_ev (by omega) (by omega)) (Ev.neg (by omega) (Ev.pos rfl (Ev.bind1 (toIntS_ev hl) (Ev.bind1 (toIntS_ev hl') (Ev.bind1 (implMul_ev l l') (Ev.bind1 (eqIntS_ev hr) (Ev.pos (by simp) ?_)))))))))
  refine Ev.step (fun k => by rw [laws_FnExactPermMul.j2]) ?_
  exact Ev.neg (by simp) (Ev.bind1 (heldIntS_ev (by omega) (by omega)) (Ev.neg (by omega) (Ev.pos rfl (Ev.now _))))
end Go.Proofs.Ytnpmaaccdpellaa.R
namespace Go.Proofs.Ytnpmaaccdpellaa.Pure
theorem FnExactPermMul : Go.Proofs.Ytnpmaaccdpellaa.F.laws_FnExactPermMul.Pure := Go.Proofs.Ytnpmaaccdpellaa.R.FnExactPermMul
end Go.Proofs.Ytnpmaaccdpellaa.Pure
