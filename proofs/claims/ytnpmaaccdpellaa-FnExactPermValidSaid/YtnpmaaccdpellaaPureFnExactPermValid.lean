/- The reference and the program agree on which lists are permutations. -/
import Derived.Test.YtnpmaaccdpellaaF1
import Derived.Test.YtnpmaaccdpellaaF2
import Derived.Test.YtnpmaaccdpellaaF3
set_option linter.unusedVariables false
set_option linter.unusedSimpArgs false
namespace Go.Proofs.Ytnpmaaccdpellaa.Sm
open List
end Go.Proofs.Ytnpmaaccdpellaa.Sm
namespace Go.Proofs.Ytnpmaaccdpellaa.R
open Go.RowKit Go.Proofs.YtnpmaaccdpellaaW.PrintWords Go.Proofs.YtnpmaaccdpellaaW.PrintLast Go.Proofs.YtnpmaaccdpellaaW.PrintMore Go.Proofs.Ytnpmaaccdpellaa.F Go.Proofs.Ytnpmaaccdpellaa.Sm
theorem Ev.pos {α : Type} {c : Prop} [Decidable c] {A B : Nat → Option α} {r : α} (h : c) (k : Ev A r) : Ev (fun n => if c then A n else B n) r := by
  simp only [if_pos h]; exact k

theorem Ev.neg {α : Type} {c : Prop} [Decidable c] {A B : Nat → Option α} {r : α} (h : ¬ c) (k : Ev B r) : Ev (fun n => if c then A n else B n) r := by
  simp only [if_neg h]; exact k

theorem Ev.bind1 {α β : Type} {g : Nat → Option α} {f : Nat → α → Option β} {a : α} {r : β} (h : Ev g a) (k : Ev (fun n => f n a) r) : Ev (fun n => (g n).bind (f n)) r := Ev.bind h k

theorem wrap_nat {i : Nat} (h : i < 9223372036854775807) : wrap64 ((i : Int) + 1) = ((i + 1 : Nat) : Int) := by unfold wrap64; omega

theorem wrap_in {n : Int} (h1 : -9223372036854775808 ≤ n) (h2 : n ≤ 9223372036854775807) : wrap64 n = n := by unfold wrap64; omega

theorem rd_get {l : List Int} {i : Nat} (h : i < l.length) : rd l (i : Int) = l[i] := by
  unfold rd; simp [h]

theorem toIntS_loop (l : List Int) (hl : l.length ≤ 1048576) : ∀ d i (s : List Int), i + d = l.length → s.length = l.length → Ev (fun k => laws_toIntS.l0 k l s (i : Int)) (s.take i ++ l.drop i) := by
  intro d
  induction d with
  | zero =>
    intro i s hi hs
    refine Ev.step (f := fun _ => some s) (fun k => by rw [laws_toIntS.l0, if_neg (by omega)]) ?_
    rw [List.take_of_length_le (by omega), List.drop_of_length_le (by omega), List.append_nil]
    exact Ev.now _
  | succ d ih =>
    intro i s hi hs
    refine Ev.step (f := fun k => laws_toIntS.l0 k l (s.set i (rd l i)) ((i + 1 : Nat) : Int)) (fun k => by
      rw [laws_toIntS.l0, if_pos (by omega), if_pos (by omega), if_pos (by omega), wrap_nat (by omega)]; rfl) ?_
    have := ih (i + 1) (s.set i (rd l i)) (by omega) (by simp [hs])
    have e : (s.set i (rd l i)).take (i + 1) ++ l.drop (i + 1) = s.take i ++ l.drop i := by
      rw [List.drop_eq_getElem_cons (show i < l.length by omega), rd_get (by omega)]
      rw [List.take_succ_eq_append_getElem (by simp; omega)]
      rw [List.take_set_of_le (Nat.le_refl i)]
      simp
    rw [e] at this
    exact this

theorem toIntS_ev {l : List Int} (hl : l.length ≤ 1048576) : Ev (fun k => laws_toIntS.f k l) l := by
  unfold laws_toIntS.f
  refine Ev.pos (by omega) (Ev.pos (by omega) ?_)
  have := toIntS_loop l hl l.length 0 (List.replicate l.length 0) (by omega) (by simp)
  simpa using this

theorem eqIntS_loop (a b : List Int) (hl : a.length = b.length) (hb : a.length ≤ 1048576) : ∀ d i, i + d = a.length → Ev (fun k => laws_eqIntS.l0 k a b (i : Int)) (decide (a.drop i = b.drop i)) := by
  intro d
  induction d with
  | zero =>
    intro i hi
    refine Ev.step (f := fun _ => some true) (fun k => by rw [laws_eqIntS.l0, if_neg (by omega)]) ?_
    rw [List.drop_of_length_le (by omega), List.drop_of_length_le (by omega)]
    exact Ev.now _
  | succ d ih =>
    intro i hi
    have ha : i < a.length := by omega
    have hb' : i < b.length := by omega
    rw [List.drop_eq_getElem_cons ha, List.drop_eq_getElem_cons hb']
    by_cases c : a[i] = b[i]
    · refine Ev.step (f := fun k => laws_eqIntS.l0 k a b ((i + 1 : Nat) : Int)) (fun k => by
        rw [laws_eqIntS.l0, if_pos (by omega), if_pos (by omega), if_pos (by omega), rd_get ha, rd_get hb', if_pos c, wrap_nat (by omega)]) ?_
      have e : decide (a[i] :: a.drop (i + 1) = b[i] :: b.drop (i + 1)) = decide (a.drop (i + 1) = b.drop (i + 1)) := by
        simp only [List.cons.injEq, c, true_and]
      rw [e]
      exact ih (i + 1) (by omega)
    · refine Ev.step (f := fun k => some false) (fun k => by
        rw [laws_eqIntS.l0, if_pos (by omega), if_pos (by omega), if_pos (by omega), rd_get ha, rd_get hb', if_neg c]) ?_
      have : decide (a[i] :: a.drop (i + 1) = b[i] :: b.drop (i + 1)) = false := by
        simp only [List.cons.injEq, c, false_and, decide_false]
      rw [this]
      exact Ev.now _

theorem eqIntS_ev {a b : List Int} (hb : a.length ≤ 1048576) : Ev (fun k => laws_eqIntS.f k a b) (decide (a = b)) := by
  unfold laws_eqIntS.f
  by_cases c : a.length = b.length
  · refine Ev.pos (by omega) ?_
    exact eqIntS_loop a b c hb a.length 0 (by omega)
  · have : decide (a = b) = false := by simp; intro e; exact c (by rw [e])
    rw [this]
    exact Ev.neg (by omega) (Ev.now _)

theorem implValid_ev (l : List Int) : Ev (fun _ => impl_PermValid.f l) (impl_PermValid.validB l) := Ev.now _

/-- the reference's look: up to i all is well -/
theorem specValid_ev (l : List Int) (hl : l.length ≤ 4294967296) : Ev (fun k => spec_PermValid.f k l) (impl_PermValid.validB l) := by
  have e0 : ∀ (a b c : Int), spec_l6In.f a b c = some (decide (b ≤ a) && decide (a ≤ c)) := by
    intro a b c
    unfold spec_l6In.f
    by_cases h : b ≤ a
    · rw [if_pos h]; simp [h]
    · rw [if_neg h]; simp [h]
  -- the inner loop
  have inner : ∀ d i j, i < l.length → j + d = i → (∀ m, m < j → rd l m ≠ rd l i) → ∀ r, ((∀ m, m < i → rd l m ≠ rd l i) → Ev (fun k => spec_PermValid.l0 k l ((i + 1 : Nat) : Int)) r) → ((∃ m, m < i ∧ rd l m = rd l i) → r = false) → Ev (fun k => spec_PermValid.l1 k l (i : Int) (j : Int)) r := by
    intro d
    induction d with
    | zero =>
      intro i j hi hj hm r h1 h2
      refine Ev.step (f := fun k => spec_PermValid.l0 k l ((i + 1 : Nat) : Int)) (fun k => by rw [spec_PermValid.l1, if_neg (by omega), wrap_nat (by omega)]) ?_
      exact h1 (fun m hmi => hm m (by omega))
    | succ d ih =>
      intro i j hi hj hm r h1 h2
      by_cases c : rd l (j : Int) = rd l (i : Int)
      · have := h2 ⟨j, by omega, c⟩
        subst this
        refine Ev.step (f := fun k => some false) (fun k => by
          rw [spec_PermValid.l1, if_pos (by omega), if_pos (by omega), if_pos (by omega), if_pos (by omega), if_pos (by omega), if_pos c]) (Ev.now _)
      · refine Ev.step (f := fun k => spec_PermValid.l1 k l (i : Int) ((j + 1 : Nat) : Int)) (fun k => by
          rw [spec_PermValid.l1, if_pos (by omega), if_pos (by omega), if_pos (by omega), if_pos (by omega), if_pos (by omega), if_neg c, wrap_nat (by omega)]) ?_
        refine ih i (j + 1) hi (by omega) (fun m hm' => ?_) r h1 h2
        by_cases e : m = j
        · subst e; exact c
        · exact hm m (by omega)
  have outer : ∀ d i, i + d = l.length → (∀ m, m < i → impl_PermValid.okAt l m = true) → Ev (fun k => spec_PermValid.l0 k l (i : Int)) (impl_PermValid.validB l) := by
    intro d
    induction d with
    | zero =>
      intro i hi hm
      have e : impl_PermValid.validB l = (decide ((1 : Int) ≤ (l.length : Int)) && decide ((l.length : Int) ≤ 12)) := by
        unfold impl_PermValid.validB
        have : (List.range l.length).all (impl_PermValid.okAt l) = true := by
          rw [List.all_eq_true]; intro m hm'; exact hm m (by have := List.mem_range.1 hm'; omega)
        rw [this]
        rw [Bool.and_true]
        congr 1
        · simp; omega
        · simp; omega
      refine Ev.step (f := fun _ => some (impl_PermValid.validB l)) (fun k => by rw [spec_PermValid.l0, if_neg (by omega), e0, e]; rfl) (Ev.now _)
    | succ d ih =>
      intro i hi hm
      have hil : i < l.length := by omega
      have fail : impl_PermValid.okAt l i = false → impl_PermValid.validB l = false := impl_PermValid.valid_fail l i hil
      have ew : wrap64 ((l.length : Int) - 1) = (l.length : Int) - 1 := wrap_in (by omega) (by omega)
      by_cases c : 0 ≤ rd l (i : Int) ∧ rd l (i : Int) ≤ (l.length : Int) - 1
      · refine Ev.step (f := fun k => spec_PermValid.l1 k l (i : Int) ((0 : Nat) : Int)) (fun k => by
          rw [spec_PermValid.l0, if_pos (by omega), if_pos (by omega), e0, ew]
          simp only [Option.bind_some]
          rw [if_pos (by simp [c.1, c.2])]; rfl) ?_
        refine inner i i 0 hil (by omega) (fun m hm' => absurd hm' (by omega)) _ (fun hd => ?_) (fun hd => ?_)
        · refine ih (i + 1) (by omega) (fun m hm' => ?_)
          by_cases e : m = i
          · subst e
            unfold impl_PermValid.okAt
            simp only [Bool.and_eq_true, decide_eq_true_eq, Bool.not_eq_true', List.contains_eq_mem, decide_eq_false_iff_not]
            refine ⟨⟨c.1, by omega⟩, fun hx => ?_⟩
            rw [List.mem_iff_getElem] at hx
            obtain ⟨j, hj, ej⟩ := hx
            have hj' : j < m := by simp at hj; omega
            have : l[j]'(by omega) = rd l m := by simpa using ej
            rw [← rd_get (show j < l.length by omega)] at this
            exact hd j hj' this
          · exact hm m (by omega)
        · obtain ⟨m, hmi, em⟩ := hd
          apply fail
          unfold impl_PermValid.okAt
          have : (l.take i).contains (rd l i) = true := by
            rw [List.contains_eq_mem, decide_eq_true_eq, ← em, rd_get (show m < l.length by omega), List.mem_iff_getElem]
            exact ⟨m, by simp; omega, by simp⟩
          simp only [this, Bool.not_true, Bool.and_false]
      · have : impl_PermValid.validB l = false := by
          apply fail
          unfold impl_PermValid.okAt
          by_cases c1 : 0 ≤ rd l (i : Int)
          · have : ¬ rd l (i : Int) < l.length := by omega
            simp [this]
          · simp [c1]
        rw [this]
        refine Ev.step (f := fun k => some false) (fun k => by
          rw [spec_PermValid.l0, if_pos (by omega), if_pos (by omega), e0, ew]
          simp only [Option.bind_some]
          rw [if_neg]
          simp only [Bool.and_eq_true, decide_eq_true_eq]
          exact c) (Ev.now _)
  unfold spec_PermValid.f
  exact outer l.length 0 (by omega) (fun m hm => absurd hm (by omega))

/-- The reference and the program agree on which lists are permutations. -/
theorem FnExactPermValid : laws_FnExactPermValid.Pure := by
  intro l hl1 hl2 hw
  refine Ev.rounds ?_
  unfold laws_FnExactPermValid.f
  by_cases c : (l.length : Int) > 1048576
  · exact Ev.pos c (Ev.now _)
  · have hl : l.length ≤ 1048576 := by omega
    refine Ev.neg c (Ev.bind1 (toIntS_ev hl) (Ev.bind1 (specValid_ev _ (by omega)) (Ev.bind1 (toIntS_ev hl) (Ev.bind1 (implValid_ev l) ?_))))
    simp only [bne_self_eq_false]
    first
      | exact Ev.neg (by simp) (Ev.bind1 (toIntS_ev hl) (Ev.bind1 (eqIntS_ev hl) (Ev.pos (by simp) (Ev.now _))))
      | exact Ev.pos (by simp) (Ev.bind1 (toIntS_ev hl) (Ev.bind1 (eqIntS_ev hl) (Ev.pos (by simp) (Ev.now _))))
end Go.Proofs.Ytnpmaaccdpellaa.R
namespace Go.Proofs.Ytnpmaaccdpellaa.Pure
theorem FnExactPermValid : Go.Proofs.Ytnpmaaccdpellaa.F.laws_FnExactPermValid.Pure := Go.Proofs.Ytnpmaaccdpellaa.R.FnExactPermValid
end Go.Proofs.Ytnpmaaccdpellaa.Pure
