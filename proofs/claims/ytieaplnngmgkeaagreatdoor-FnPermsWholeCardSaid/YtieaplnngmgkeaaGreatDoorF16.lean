/- Contracts: what these Go functions return. -/
import Derived.Test.YtieaplnngmgkeaaGreatDoorF0
import Derived.Test.YtieaplnngmgkeaaGreatDoorF6
import Derived.Test.YtieaplnngmgkeaaGreatDoorF11
import Derived.Test.YtieaplnngmgkeaaGreatDoorT
namespace Go.Proofs.YtieaplnngmgkeaaGreatDoor.F
open Go.RowKit Go.Proofs.YtieaplnngmgkeaaGreatDoorW.PrintWords Go.Proofs.YtieaplnngmgkeaaGreatDoorW.PrintLast Go.Proofs.YtieaplnngmgkeaaGreatDoorW.PrintMore
attribute [local go_sem] max2_int min2_int max_two min_two max_three min_three max_four min_four
set_option linter.unusedVariables false
set_option linter.unusedSimpArgs false

-- NOT PRINTED: function 71 (strconv_ParseUint)

-- NOT PRINTED: function 53 (strconv_ParseInt)

-- NOT PRINTED: function 42 (strconv_Atoi_42)

-- NOT PRINTED: function 72 (stringslite_Clone)

-- NOT PRINTED: function 54 (strconv_syntaxError)

-- NOT PRINTED: function 55 (strconv_rangeError)

-- NOT PRINTED: function 73 (errors_New)

-- NOT PRINTED: function 56 (strconv_baseError)

-- NOT PRINTED: function 57 (strconv_bitSizeError)

-- NOT PRINTED: function 43 (strconv_toError)

-- NOT PRINTED: function 34 (strconv_Atoi_34)

/-! ### impl_PermFrom: function 12 -/
/-- the numbers of some words, all below n -/
def impl_PermFrom.pts (n : Int) : List ByteArray → List Int → Option (List Int)
  | [], acc => some acc
  | u :: t, acc => match Lib.atoiAll u.data.toList with
    | .ok v => if v < 0 then none else if v ≥ n then none else impl_PermFrom.pts n t (acc ++ [v])
    | _ => none
/-- each point leads to the next one of the list -/
def impl_PermFrom.put (q : List Int) : Nat → Nat → List Int → List Int
  | 0, _, p => p
  | d + 1, i, p => impl_PermFrom.put q d (i + 1) (p.set (rd q (i : Int)).toNat (rd q (((i + 1) % q.length : Nat) : Int)))
def impl_PermFrom.words (l : List UInt8) : List ByteArray := Lib.splitB ⟨#[44]⟩ 0 (Lib.countB ⟨l.toArray⟩ ⟨#[44]⟩) ⟨l.toArray⟩
def impl_PermFrom.fine (ws : List ByteArray) : Bool := decide (ws.length ≤ 10000000) && ws.all fun u => decide (u.size ≤ 281474976710656)
def impl_PermFrom.inner (rest : List UInt8) : List UInt8 × List UInt8 × Bool := Lib.cut (Lib.trimPrefix rest [40]) [41]
def impl_PermFrom.l0 (n : Int) (s : List UInt8) : Nat → List Int → List UInt8 → Option (Option (List Int))
  | 0, _, _ => none
  | k + 1, p, rest => if rest = [] then some (some p) else if s = [40, 41] then some (some p) else
      if Lib.hasPrefix rest [40] = true then (if (impl_PermFrom.inner rest).2.2 = true then (if impl_PermFrom.fine (impl_PermFrom.words (impl_PermFrom.inner rest).1) = true then (match impl_PermFrom.pts n (impl_PermFrom.words (impl_PermFrom.inner rest).1) [] with
        | none => some none
        | some q => impl_PermFrom.l0 n s k (impl_PermFrom.put q q.length 0 p) (impl_PermFrom.inner rest).2.1) else none) else some none) else some none
def impl_PermFrom.f (k : Nat) (n : Int) (s : ByteArray) : Option (List Int × Bool) := if n < 1 then some ([], false) else if 12 < n then some ([], false) else if s.data.toList.length < 4000000000 then (impl_still.f k n).bind fun p0 => if (p0.length : Int) = n then ((impl_PermFrom.l0 n s.data.toList k p0 s.data.toList).bind fun o => match o with
    | none => some ([], false)
    | some p => (impl_PermText.f k p).bind fun t => if t.toList = s.toList then some (p, true) else some ([], false)) else none
  else none
theorem impl_PermFrom.cut_len (l sep : List UInt8) : (Lib.cut l sep).1.length ≤ l.length ∧ (Lib.cut l sep).2.1.length ≤ l.length := by
  unfold Lib.cut
  split
  · simp; omega
  · simp
theorem impl_PermFrom.trim_len (l p : List UInt8) : (Lib.trimPrefix l p).length ≤ l.length := by
  unfold Lib.trimPrefix
  split
  · simp
  · exact Nat.le_refl _
theorem impl_PermFrom.inner_len (l : List UInt8) : (impl_PermFrom.inner l).1.length ≤ l.length ∧ (impl_PermFrom.inner l).2.1.length ≤ l.length := by
  have := impl_PermFrom.cut_len (Lib.trimPrefix l [40]) [41]
  have := impl_PermFrom.trim_len l [40]
  unfold impl_PermFrom.inner
  omega
theorem impl_PermFrom.words_len (l : List UInt8) : Lib.countB ⟨l.toArray⟩ ⟨#[44]⟩ + 1 = (impl_PermFrom.words l).length := (Lib.splitB_all ⟨#[44]⟩ (by decide) 0 _ _ rfl).symm
theorem impl_PermFrom.pts_drop {n : Int} {ws : List ByteArray} {i : Nat} (h : i < ws.length) (q : List Int) : impl_PermFrom.pts n (ws.drop i) q = match Lib.atoiAll (ws[i]).data.toList with
    | .ok v => if v < 0 then none else if v ≥ n then none else impl_PermFrom.pts n (ws.drop (i + 1)) (q ++ [v])
    | _ => none := by
  rw [List.drop_eq_getElem_cons h]; rfl
theorem impl_PermFrom.pts_at {n : Int} {ws : List ByteArray} {i : Nat} {u : ByteArray} (h : ws[i]? = some u) (q : List Int) : impl_PermFrom.pts n (ws.drop i) q = match Lib.atoiAll u.data.toList with
    | .ok v => if v < 0 then none else if v ≥ n then none else impl_PermFrom.pts n (ws.drop (i + 1)) (q ++ [v])
    | _ => none := by
  obtain ⟨hi, e⟩ := List.getElem?_eq_some_iff.1 h
  rw [impl_PermFrom.pts_drop hi, e]
theorem impl_PermFrom.up {i n : Nat} (h : i < n) (hn : n ≤ 10000000) : wrap64 ((i : Int) + 1) = ((i + 1 : Nat) : Int) := by unfold wrap64; omega
theorem impl_PermFrom.pts_mem {n : Int} : ∀ {ws : List ByteArray} {acc q : List Int}, impl_PermFrom.pts n ws acc = some q → (∀ x, x ∈ acc → 0 ≤ x ∧ x < n) → ∀ x, x ∈ q → 0 ≤ x ∧ x < n
  | [], acc, q, h, ha => by
    simp only [impl_PermFrom.pts] at h
    obtain rfl := Option.some.inj h
    exact ha
  | u :: t, acc, q, h, ha => by
    simp only [impl_PermFrom.pts] at h
    cases hat : Lib.atoiAll u.data.toList with
    | ok v =>
      simp only [hat] at h
      by_cases c1 : v < 0
      · rw [if_pos c1] at h; exact absurd h (by simp)
      · rw [if_neg c1] at h
        by_cases c2 : v ≥ n
        · rw [if_pos c2] at h; exact absurd h (by simp)
        · rw [if_neg c2] at h
          refine impl_PermFrom.pts_mem h (fun x hx => ?_)
          rcases List.mem_append.1 hx with hx | hx
          · exact ha x hx
          · simp at hx; subst hx; omega
    | «syntax» => simp only [hat] at h; exact absurd h (by simp)
    | range => simp only [hat] at h; exact absurd h (by simp)
theorem impl_PermFrom.fine_at {ws : List ByteArray} (h : impl_PermFrom.fine ws = true) : ws.length ≤ 10000000 ∧ ∀ i (hi : i < ws.length), (ws[i]).size ≤ 281474976710656 := by
  unfold impl_PermFrom.fine at h
  simp only [Bool.and_eq_true, List.all_eq_true, decide_eq_true_eq] at h
  exact ⟨h.1, fun i hi => h.2 _ (List.getElem_mem hi)⟩
theorem impl_PermFrom.put_len (q : List Int) : ∀ d i (p : List Int), (impl_PermFrom.put q d i p).length = p.length
  | 0, _, _ => rfl
  | d + 1, i, p => by
    unfold impl_PermFrom.put
    rw [impl_PermFrom.put_len q d]; simp
theorem impl_PermFrom.put_step {q : List Int} {d i m : Nat} {p : List Int} {x y : Int} (hx : x = rd q (i : Int)) (hm : m = (i + 1) % q.length) (hy : y = rd q (m : Int)) : impl_PermFrom.put q (d + 1) i p = impl_PermFrom.put q d (i + 1) (p.set x.toNat y) := by
  subst hx hm hy; rfl
theorem impl_PermFrom.tmod_nat (a b : Nat) : Int.tmod (a : Int) (b : Int) = ((a % b : Nat) : Int) := by
  rw [Int.tmod_eq_emod_of_nonneg (Int.natCast_nonneg a)]; exact (Int.natCast_emod a b).symm
theorem impl_PermFrom.small_wrap {m n : Nat} (h : m < n) (hn : n ≤ 10000000) : wrap64 (m : Int) = (m : Int) := by unfold wrap64; omega
theorem impl_PermFrom.mem_rd {q : List Int} {j : Nat} (h : j < q.length) : rd q (j : Int) ∈ q := by
  have : rd q (j : Int) = q[j] := by unfold rd; simp [h]
  rw [this]; exact List.getElem_mem h
theorem impl_PermFrom.cutPrefix_ (l : List UInt8) (w : World) : Calls Tryz.prog 31 #[.string ⟨l.toArray⟩, .string ⟨#[40]⟩] w fun e w' => e = .returned (.tuple #[.string ⟨(Lib.trimPrefix l [40]).toArray⟩, .bool (Lib.hasPrefix l [40])]) ∧ w' = w := Tryz.strings_CutPrefix ⟨l.toArray⟩ ⟨#[40]⟩ w
theorem impl_PermFrom.cut_ (l : List UInt8) (m : Int) (w : World) (hs : l.length < 4294967281) (hm : w.cell? ⟨0, 0, none⟩ = some (.int .i64 m)) : Calls Tryz.prog 32 #[.string ⟨l.toArray⟩, .string ⟨#[41]⟩] w fun e w' => e = .returned (.tuple #[.string ⟨(Lib.cut l [41]).1.toArray⟩, .string ⟨(Lib.cut l [41]).2.1.toArray⟩, .bool (Lib.cut l [41]).2.2]) ∧ ∃ n, w' = w.drewN n := Tryz.strings_Cut ⟨l.toArray⟩ ⟨#[41]⟩ m w hs hm
theorem impl_PermFrom.cut2_ (rest a1 a2 : List UInt8) (a3 : Bool) (hin : (a1, a2, a3) = impl_PermFrom.inner rest) (m : Int) (w : World) (hs : rest.length < 4294967281) (hm : w.cell? ⟨0, 0, none⟩ = some (.int .i64 m)) : Calls Tryz.prog 32 #[.string ⟨(Lib.trimPrefix rest [40]).toArray⟩, .string ⟨#[41]⟩] w fun e w' => e = .returned (.tuple #[.string ⟨a1.toArray⟩, .string ⟨a2.toArray⟩, .bool a3]) ∧ ∃ n, w' = w.drewN n := by
  have := impl_PermFrom.cut_ (Lib.trimPrefix rest [40]) m w (by have := impl_PermFrom.trim_len rest [40]; omega) hm
  unfold impl_PermFrom.inner at hin
  rw [← hin] at this
  exact this
set_option maxHeartbeats 8000000 in
set_option maxRecDepth 100000 in
theorem impl_PermFrom.calls (k : Nat) (n : Int) (s : ByteArray) (r1 : List Int) (r2 : Bool) (w : World) (m0 : Int) (ev1 ev2 : Value) (hm0 : w.cell? ⟨0, 0, none⟩ = some (.int .i64 m0)) (he1 : w.cell? ⟨1, 0, none⟩ = some ev1) (he2 : w.cell? ⟨2, 0, none⟩ = some ev2) (hi1 : ev1 = .nilIface ∨ ∃ te pe, ev1 = .iface te pe) (hi2 : ev2 = .nilIface ∨ ∃ te pe, ev2 = .iface te pe) (h : impl_PermFrom.f k n s = some (r1, r2)) :
    Calls Tryz.prog 12 #[.int .i64 n, .string s] w fun e w' => ∃ v0_ : Value, e = .returned (.tuple #[v0_, .bool r2]) ∧ Kd.R (Kd.int .i64) 3 w' w.heap.size (fun _ => True) v0_ r1 ∧ Below w.heap.size w w' := by
  have HM := Aside0.mk hm0
  have HE1 := Aside0.mk he1
  have HE2 := Aside0.mk he2
  have HJ1 := Aside0.mk hi1
  have HJ2 := Aside0.mk hi2
  clear hm0 he1 he2 hi1 hi2
  have HB := Aside0.mk (Below.refl w.heap.size w)
  obtain ⟨l, rfl⟩ : ∃ l : List UInt8, s = ⟨l.toArray⟩ := ⟨s.data.toList, by cases s; simp⟩
  unfold impl_PermFrom.f at h
  by_cases h1 : n < 1
  · rw [if_pos h1] at h
    obtain ⟨rfl, rfl⟩ := Prod.mk.inj (Option.some.inj h)
    have h1b : decide (n < 1) = true := decide_eq_true h1
    clear h1 h
    go_enter Tryz.func12, Tryz.ntmps12
    go_wp2
    go_ret2
    exact ⟨_, rfl, Kd.R_nil _ _ _ _ _, bP HB⟩
  rw [if_neg h1] at h
  have h1b : decide (n < 1) = false := decide_eq_false h1
  clear h1
  by_cases h2 : 12 < n
  · rw [if_pos h2] at h
    obtain ⟨rfl, rfl⟩ := Prod.mk.inj (Option.some.inj h)
    have h2b : decide (12 < n) = true := decide_eq_true h2
    clear h2 h
    go_enter Tryz.func12, Tryz.ntmps12
    go_wp2
    go_ret2
    exact ⟨_, rfl, Kd.R_nil _ _ _ _ _, bP HB⟩
  rw [if_neg h2] at h
  have h2b : decide (12 < n) = false := decide_eq_false h2
  clear h2
  by_cases h3 : l.length < 4000000000
  · rw [if_pos (by simpa using h3)] at h
    simp only at h
    obtain ⟨p0, h4, h5⟩ := Option.bind_eq_some_iff.mp h
    by_cases hp0 : (p0.length : Int) = n
    case neg => rw [if_neg hp0] at h5; exact absurd h5 (by simp)
    rw [if_pos hp0] at h5
    have HNP := Aside0.mk hp0
    clear hp0
    obtain ⟨o, h6, h7⟩ := Option.bind_eq_some_iff.mp h5
    clear h h5
    have A1 := Aside0.mk h4
    have A2 : Aside0 (impl_PermFrom.l0 n l k p0 l = some o) := ⟨h6⟩
    have A3 := Aside0.mk h7
    have HL := Aside0.mk h3
    clear h4 h6 h7 h3
    go_enter Tryz.func12, Tryz.ntmps12
    go_wp2_with (first | ((with_reducible refine gate_callee (f := 24) rfl ?_); refine gL (some 27) Tryz.func24 #[.int .i64 n] ?_; (with_reducible refine (impl_still.calls k n p0 _ A1.out).mono ?_); rintro e w1 ⟨v1, rfl, ho0, hb⟩; refine ⟨_, rfl, ?_⟩; have HO := rL ho0 HB; replace HB := bS HB hb; clear hb ho0; obtain ⟨Ap, cp, ep⟩ := Kd.R_slice HO.out; subst ep))
    go_loopg [7] k (fun kq v7 w' => ∃ (p : List Int) (rest : List UInt8), v7 = .string ⟨rest.toArray⟩ ∧ Aside0 (impl_PermFrom.l0 n l kq p rest = some o) ∧ Aside0 (kq ≤ k) ∧ Aside0 (rest.length ≤ l.length) ∧ Aside0 (Kd.R (Kd.int .i64) 3 w' w.heap.size (fun _ => True) (.slice Ap p0.length cp) p) ∧ Aside0 (Below w.heap.size w w'))
    case atStart => exact ⟨p0, l, rfl, A2, ⟨Nat.le_refl _⟩, ⟨Nat.le_refl _⟩, ⟨rP HO⟩, ⟨bP HB⟩⟩
    case round =>
      clear HO HB A2
      obtain ⟨p, rest, rfl, HA, HK, HR, HO, HB⟩ := hrel
      have hl := (Kd.R_reads' HO.out).1
      rw [hl] at HO
      (try simp only [hl])
      cases gk with
      | zero => exact absurd HA.out (by simp [impl_PermFrom.l0])
      | succ k1 =>
        have H := HA.out
        clear HA
        simp only [impl_PermFrom.l0] at H
        by_cases c1 : rest = []
        · rw [if_pos c1] at H
          obtain rfl := Option.some.inj H
          clear H
          have r1_ : (rest == []) = true := beq_iff_eq.mpr c1
          have r2_ : (rest != []) = false := bne_eq_false_iff_eq.mpr c1
          clear c1
          have h7 := A3.out
          obtain ⟨t, ht, h8⟩ := Option.bind_eq_some_iff.mp h7
          clear h7
          have HT := Aside0.mk ht
          clear ht
          by_cases ct : t.toList = (⟨l.toArray⟩ : ByteArray).toList
          · rw [if_pos ct] at h8
            obtain ⟨rfl, rfl⟩ := Prod.mk.inj (Option.some.inj h8)
            clear h8
            have ct : t.toList = l := ct.trans (ByteArray.toList_mk l)
            have t1 : (t.toList == l) = true := beq_iff_eq.mpr ct
            have t2 : (t.toList != l) = false := bne_eq_false_iff_eq.mpr ct
            clear ct
            go_wp2_with (first | ((with_reducible refine gate_callee (f := 11) rfl ?_); refine gL (some 102) Tryz.func11 #[.slice Ap p.length cp] ?_; (with_reducible refine (impl_PermText.calls k _ _ p t _ ?side1 ?side2 HT.out).mono ?_); (case side1 => exact cP (Kd.R_reads' HO.out).2.2); (case side2 => exact (Kd.R_reads' HO.out).2.1); rintro e w9 ⟨rfl, hb⟩; refine ⟨_, rfl, ?_⟩; replace HO := rB HO hb; replace HB := bS HB hb; clear hb))
            go_ret2
            exact ⟨_, rfl, rP HO, bP HB⟩
          · rw [if_neg ct] at h8
            obtain ⟨rfl, rfl⟩ := Prod.mk.inj (Option.some.inj h8)
            clear h8
            have ct : t.toList ≠ l := fun e => ct (e.trans (ByteArray.toList_mk l).symm)
            have t1 : (t.toList == l) = false := beq_eq_false_iff_ne.mpr ct
            have t2 : (t.toList != l) = true := bne_iff_ne.mpr ct
            clear ct
            go_wp2_with (first | ((with_reducible refine gate_callee (f := 11) rfl ?_); refine gL (some 102) Tryz.func11 #[.slice Ap p.length cp] ?_; (with_reducible refine (impl_PermText.calls k _ _ p t _ ?side1 ?side2 HT.out).mono ?_); (case side1 => exact cP (Kd.R_reads' HO.out).2.2); (case side2 => exact (Kd.R_reads' HO.out).2.1); rintro e w9 ⟨rfl, hb⟩; refine ⟨_, rfl, ?_⟩; replace HO := rB HO hb; replace HB := bS HB hb; clear hb))
            go_ret2
            exact ⟨_, rfl, Kd.R_nil _ _ _ _ _, bP HB⟩
        · rw [if_neg c1] at H
          have r1_ : (rest == []) = false := beq_eq_false_iff_ne.mpr c1
          have r2_ : (rest != []) = true := bne_iff_ne.mpr c1
          clear c1
          by_cases c2 : l = [40, 41]
          · rw [if_pos c2] at H
            obtain rfl := Option.some.inj H
            clear H
            have r3_ : (l == [40, 41]) = true := beq_iff_eq.mpr c2
            have r4_ : (l != [40, 41]) = false := bne_eq_false_iff_eq.mpr c2
            clear c2
            have h7 := A3.out
            obtain ⟨t, ht, h8⟩ := Option.bind_eq_some_iff.mp h7
            clear h7
            have HT := Aside0.mk ht
            clear ht
            by_cases ct : t.toList = (⟨l.toArray⟩ : ByteArray).toList
            · rw [if_pos ct] at h8
              obtain ⟨rfl, rfl⟩ := Prod.mk.inj (Option.some.inj h8)
              clear h8
              have ct : t.toList = l := ct.trans (ByteArray.toList_mk l)
              have t1 : (t.toList == l) = true := beq_iff_eq.mpr ct
              have t2 : (t.toList != l) = false := bne_eq_false_iff_eq.mpr ct
              clear ct
              go_wp2_with (first | ((with_reducible refine gate_callee (f := 11) rfl ?_); refine gL (some 102) Tryz.func11 #[.slice Ap p.length cp] ?_; (with_reducible refine (impl_PermText.calls k _ _ p t _ ?side1 ?side2 HT.out).mono ?_); (case side1 => exact cP (Kd.R_reads' HO.out).2.2); (case side2 => exact (Kd.R_reads' HO.out).2.1); rintro e w9 ⟨rfl, hb⟩; refine ⟨_, rfl, ?_⟩; replace HO := rB HO hb; replace HB := bS HB hb; clear hb))
              go_ret2
              exact ⟨_, rfl, rP HO, bP HB⟩
            · rw [if_neg ct] at h8
              obtain ⟨rfl, rfl⟩ := Prod.mk.inj (Option.some.inj h8)
              clear h8
              have ct : t.toList ≠ l := fun e => ct (e.trans (ByteArray.toList_mk l).symm)
              have t1 : (t.toList == l) = false := beq_eq_false_iff_ne.mpr ct
              have t2 : (t.toList != l) = true := bne_iff_ne.mpr ct
              clear ct
              go_wp2_with (first | ((with_reducible refine gate_callee (f := 11) rfl ?_); refine gL (some 102) Tryz.func11 #[.slice Ap p.length cp] ?_; (with_reducible refine (impl_PermText.calls k _ _ p t _ ?side1 ?side2 HT.out).mono ?_); (case side1 => exact cP (Kd.R_reads' HO.out).2.2); (case side2 => exact (Kd.R_reads' HO.out).2.1); rintro e w9 ⟨rfl, hb⟩; refine ⟨_, rfl, ?_⟩; replace HO := rB HO hb; replace HB := bS HB hb; clear hb))
              go_ret2
              exact ⟨_, rfl, Kd.R_nil _ _ _ _ _, bP HB⟩
          · rw [if_neg c2] at H
            have r3_ : (l == [40, 41]) = false := beq_eq_false_iff_ne.mpr c2
            have r4_ : (l != [40, 41]) = true := bne_iff_ne.mpr c2
            clear c2
            obtain ⟨⟨a1, a2, a3⟩, hin⟩ : ∃ t, t = impl_PermFrom.inner rest := ⟨_, rfl⟩
            rw [← hin] at H
            have HIN := Aside0.mk hin
            clear hin
            simp only at H
            have HN : Aside0 (a1.length ≤ l.length ∧ a2.length ≤ l.length) := ⟨by have := impl_PermFrom.inner_len rest; rw [← HIN.out] at this; have := HR.out; simp only at *; omega⟩
            cases hp : Lib.hasPrefix rest [40] with
            | false =>
              rw [hp, if_neg (by decide)] at H
              have o7 : o = none := (Option.some.inj H).symm
              subst o7
              clear H
              obtain ⟨rfl, rfl⟩ := Prod.mk.inj (Option.some.inj A3.out)
              go_wp2_with (first
                | ((with_reducible refine gate_callee (f := 31) rfl ?_); refine gL (some 37) Tryz.func31 #[.string ⟨rest.toArray⟩, .string ⟨#[40]⟩] ?_; refine (impl_PermFrom.cutPrefix_ rest _).mono ?_; rintro e w1 ⟨rfl, rfl⟩; refine ⟨_, rfl, ?_⟩)
                | ((with_reducible refine gate_callee (f := 32) rfl ?_); refine gL (some 42) Tryz.func32 #[.string ⟨(Lib.trimPrefix rest [40]).toArray⟩, .string ⟨#[41]⟩] ?_; refine (impl_PermFrom.cut2_ rest a1 a2 a3 HIN.out m0 _ (by have := HR.out; have := HL.out; omega) ?hm).mono ?_; (case hm => exact ((bP HB : Below w.heap.size w _).cell (World.block_lt_of_cell? w _ HM.out)).trans HM.out); rintro e w1 ⟨rfl, ⟨nd, rfl⟩⟩; refine ⟨_, rfl, ?_⟩))
              go_ret2
              exact ⟨_, rfl, Kd.R_nil _ _ _ _ _, bP HB⟩
            | true =>
              rw [hp, if_pos rfl] at H
              cases a3 with
              | false =>
                rw [if_neg (by decide)] at H
                have o7 : o = none := (Option.some.inj H).symm
                subst o7
                clear H
                obtain ⟨rfl, rfl⟩ := Prod.mk.inj (Option.some.inj A3.out)
                go_wp2_with (first
                  | ((with_reducible refine gate_callee (f := 31) rfl ?_); refine gL (some 37) Tryz.func31 #[.string ⟨rest.toArray⟩, .string ⟨#[40]⟩] ?_; refine (impl_PermFrom.cutPrefix_ rest _).mono ?_; rintro e w1 ⟨rfl, rfl⟩; refine ⟨_, rfl, ?_⟩)
                  | ((with_reducible refine gate_callee (f := 32) rfl ?_); refine gL (some 42) Tryz.func32 #[.string ⟨(Lib.trimPrefix rest [40]).toArray⟩, .string ⟨#[41]⟩] ?_; refine (impl_PermFrom.cut2_ rest a1 a2 false HIN.out m0 _ (by have := HR.out; have := HL.out; omega) ?hm).mono ?_; (case hm => exact ((bP HB : Below w.heap.size w _).cell (World.block_lt_of_cell? w _ HM.out)).trans HM.out); rintro e w1 ⟨rfl, ⟨nd, rfl⟩⟩; refine ⟨_, rfl, ?_⟩))
                go_ret2
                exact ⟨_, rfl, Kd.R_nil _ _ _ _ _, bP HB⟩
              | true =>
                rw [if_pos rfl] at H
                by_cases hf : impl_PermFrom.fine (impl_PermFrom.words a1) = true
                · rw [if_pos hf] at H
                  have HF := Aside0.mk hf
                  have H' := Aside0.mk H
                  clear hf H
                  go_wp2_with (first
                    | ((with_reducible refine gate_callee (f := 31) rfl ?_); refine gL (some 37) Tryz.func31 #[.string ⟨rest.toArray⟩, .string ⟨#[40]⟩] ?_; refine (impl_PermFrom.cutPrefix_ rest _).mono ?_; rintro e w1 ⟨rfl, rfl⟩; refine ⟨_, rfl, ?_⟩)
                    | ((with_reducible refine gate_callee (f := 32) rfl ?_); refine gL (some 42) Tryz.func32 #[.string ⟨(Lib.trimPrefix rest [40]).toArray⟩, .string ⟨#[41]⟩] ?_; refine (impl_PermFrom.cut2_ rest a1 a2 true HIN.out m0 _ (by have := HR.out; have := HL.out; omega) ?hm).mono ?_; (case hm => exact ((bP HB : Below w.heap.size w _).cell (World.block_lt_of_cell? w _ HM.out)).trans HM.out); rintro e w1 ⟨rfl, ⟨nd, rfl⟩⟩; refine ⟨_, rfl, ?_⟩)
                    | ((with_reducible refine gate_dst (N := 52) rfl ?_); refine Kd.R_lit (Kd.int .i64) _ 3 ?hg (N := 52) ?hd (xs := ([] : List Int)) (inner := []) (ok := fun _ => True) (okp := fun _ => True) ?hr ?hp (fun _ hk => hk) trivial (Below.refl _ _) (Nat.le_refl _) (by simp) ?_; (case hd => rfl); (case hg => rfl); (case hr => first | (go_simp; done) | (go_simp; rfl)); (case hp => exact (Reps.none _ _)); intro v5 w5 ho24 hb hg_ hnew_; clear hg_ hnew_; have q1_ := Kd.R_elder' (rP HO) (Kd.R_base ho24) hb; have q2_ := Kd.R_new' ho24 (Kd.R_lt (rP HO)); have hl_ := below_size (bP HB : Below w.heap.size w _); have HO2 : Aside0 (Kd.R (Kd.int .i64) 3 w5 w.heap.size (fun k_ => some k_ ≠ v5.ownBlock) (.slice Ap p.length cp) p) := ⟨Kd.R_mono q1_ (fun _ hk => hk.2)⟩; have HQ : Aside0 (Kd.R (Kd.int .i64) 3 w5 w.heap.size (fun k_ => some k_ ≠ (.slice Ap p.length cp : Value).ownBlock) v5 []) := ⟨Kd.R_lower (Kd.R_mono q2_ (fun _ hk => hk.2)) hl_⟩; replace HB := bS HB hb; clear hb ho24 q1_ q2_ hl_)
                    | ((with_reducible refine gate_callee (f := 33) rfl ?_); refine gL (some 54) Tryz.func33 #[.string ⟨a1.toArray⟩, .string ⟨#[44]⟩] ?_; refine (Tryz.strings_Split ⟨a1.toArray⟩ ⟨#[44]⟩ m0 _ (show a1.length < 4294967281 by have := HN.out; have := HL.out; omega) ?hm (by decide)).mono ?_; (case hm => exact ((bP HB : Below w.heap.size w _).cell (World.block_lt_of_cell? w _ HM.out)).trans HM.out); rintro e w7 ⟨rfl, hw7⟩; refine ⟨_, rfl, ?_⟩; obtain ⟨gb, hgb⟩ : ∃ gb, gb = w5.heap.size := ⟨_, rfl⟩; have BW : Aside0 (w7.heap[gb]? = some (.cells ((impl_PermFrom.words a1).map Value.string).toArray 9 (0, 0))) := ⟨by rw [hw7, hgb]; exact blk_new _ _⟩; replace HO2 : Aside0 (Kd.R (Kd.int .i64) 3 w7 w.heap.size (fun k_ => some k_ ≠ v5.ownBlock) (.slice Ap p.length cp) p) := ⟨by rw [hw7]; exact rP HO2⟩; replace HQ : Aside0 (Kd.R (Kd.int .i64) 3 w7 w.heap.size (fun k_ => some k_ ≠ (.slice Ap p.length cp : Value).ownBlock) v5 []) := ⟨by rw [hw7]; exact rP HQ⟩; replace HB : Aside0 (Below w.heap.size w w7) := ⟨by rw [hw7]; exact bP HB⟩; rw [show w5.heap.size = gb from hgb.symm, impl_PermFrom.words_len a1]; clear hw7 hgb))
                  obtain ⟨ws, hws⟩ : ∃ ws, impl_PermFrom.words a1 = ws := ⟨_, rfl⟩
                  rw [hws] at BW HF H'
                  (try simp only [hws])
                  clear hws
                  go_loopg [13, 56] ws.length (fun kq v13 v56 w' => ∃ (i : Nat) (q : List Int), v56 = .int .i64 i ∧ Aside0 (i + kq = ws.length) ∧ Aside0 (impl_PermFrom.pts n (ws.drop i) q = impl_PermFrom.pts n ws []) ∧ Aside0 (q.length ≤ i) ∧ Aside0 (Kd.R (Kd.int .i64) 3 w' w.heap.size (fun k_ => some k_ ≠ (v13 : Value).ownBlock) (.slice Ap p.length cp) p) ∧ Aside0 (Kd.R (Kd.int .i64) 3 w' w.heap.size (fun k_ => some k_ ≠ (.slice Ap p.length cp : Value).ownBlock) v13 q) ∧ Aside0 (w'.heap[gb]? = some (.cells (ws.map Value.string).toArray 9 (0, 0))) ∧ Aside0 (Below w.heap.size w w'))
                  case atStart => exact ⟨0, [], rfl, ⟨by omega⟩, ⟨rfl⟩, ⟨by simp⟩, ⟨rP HO2⟩, ⟨rP HQ⟩, ⟨kP BW⟩, ⟨bP HB⟩⟩
                  case round =>
                    clear HO HO2 HQ BW HB
                    obtain ⟨i, q, rfl, HK2, HP, HQL, HO2, HQ, BW, HB⟩ := hrel
                    by_cases hi : i < ws.length
                    · obtain ⟨u, hu⟩ : ∃ u, u = ws[i] := ⟨_, rfl⟩
                      have hx : wr.cell? ⟨gb, i, none⟩ = some (.string u) := (blk_cell BW.out i).trans (by rw [hu]; simp [hi])
                      have HU : Aside0 (u.size ≤ 281474976710656) := ⟨by rw [hu]; exact (impl_PermFrom.fine_at HF.out).2 i hi⟩
                      have HUU : Aside0 (ws[i]? = some u) := ⟨by rw [hu]; simp [hi]⟩
                      have HI := Aside0.mk hi
                      have i1 : decide ((i : Int) < (ws.length : Int)) = true := decide_eq_true (by omega)
                      have i2 : decide (i < ws.length) = true := decide_eq_true hi
                      have i3 := eq_true (show (i : Int) < (ws.length : Int) by omega)
                      have i4 := eq_true hi
                      clear hu hi
                      obtain ⟨k2, rfl⟩ : ∃ k2, gk = k2 + 1 := ⟨gk - 1, by have := HK2.out; have := HI.out; omega⟩
                      cases hat : Lib.atoiAll u.data.toList with
                      | «syntax» =>
                        have HAT := Aside0.mk hat
                        clear hat
                        have e0 : impl_PermFrom.pts n ws [] = none := by rw [← HP.out, impl_PermFrom.pts_at HUU.out, HAT.out]
                        have H := H'.out
                        rw [e0] at H
                        have o7 : o = none := (Option.some.inj H).symm
                        subst o7
                        clear H e0
                        obtain ⟨rfl, rfl⟩ := Prod.mk.inj (Option.some.inj A3.out)
                        go_wp2_with (first | ((with_reducible refine gate_callee (f := 34) rfl ?_); refine gL (some 62) Tryz.func34 #[.string u] ?_; refine (Tryz.strconv_Atoi_syntax u HU.out HAT.out ev1 _ ?hv HJ1.out).mono ?_; (case hv => exact ((bP HB : Below w.heap.size w _).cell (World.block_lt_of_cell? w _ HE1.out)).trans HE1.out); rintro e w8 ⟨N_, rfl, _, _, hb⟩; refine ⟨_, rfl, ?_⟩; replace HO2 := rB HO2 hb; replace HQ := rB HQ hb; replace BW := kB BW hb; replace HB := bS HB hb; clear hb hx))
                        go_ret2
                        exact ⟨_, rfl, Kd.R_nil _ _ _ _ _, bP HB⟩
                      | range =>
                        have HAT := Aside0.mk hat
                        clear hat
                        have e0 : impl_PermFrom.pts n ws [] = none := by rw [← HP.out, impl_PermFrom.pts_at HUU.out, HAT.out]
                        have H := H'.out
                        rw [e0] at H
                        have o7 : o = none := (Option.some.inj H).symm
                        subst o7
                        clear H e0
                        obtain ⟨rfl, rfl⟩ := Prod.mk.inj (Option.some.inj A3.out)
                        go_wp2_with (first | ((with_reducible refine gate_callee (f := 34) rfl ?_); refine gL (some 62) Tryz.func34 #[.string u] ?_; refine (Tryz.strconv_Atoi_range u HU.out HAT.out ev2 _ ?hv HJ2.out).mono ?_; (case hv => exact ((bP HB : Below w.heap.size w _).cell (World.block_lt_of_cell? w _ HE2.out)).trans HE2.out); rintro e w8 ⟨N_, rfl, _, _, hb⟩; refine ⟨_, rfl, ?_⟩; replace HO2 := rB HO2 hb; replace HQ := rB HQ hb; replace BW := kB BW hb; replace HB := bS HB hb; clear hb hx))
                        go_ret2
                        exact ⟨_, rfl, Kd.R_nil _ _ _ _ _, bP HB⟩
                      | ok v =>
                        have HAT := Aside0.mk hat
                        clear hat
                        by_cases c5 : v < 0
                        · have HV := Aside0.mk c5
                          have v1 : decide (v < 0) = true := decide_eq_true c5
                          clear c5
                          have e0 : impl_PermFrom.pts n ws [] = none := by rw [← HP.out, impl_PermFrom.pts_at HUU.out, HAT.out]; exact if_pos HV.out
                          have H := H'.out
                          rw [e0] at H
                          have o7 : o = none := (Option.some.inj H).symm
                          subst o7
                          clear H e0
                          obtain ⟨rfl, rfl⟩ := Prod.mk.inj (Option.some.inj A3.out)
                          go_wp2_with (first | ((with_reducible refine gate_callee (f := 34) rfl ?_); refine gL (some 62) Tryz.func34 #[.string u] ?_; refine (Tryz.strconv_Atoi_ok u (by have := HU.out; omega) v HAT.out _).mono ?_; rintro e w8 ⟨rfl, hw8⟩; refine ⟨_, rfl, ?_⟩; have hb : Below wr.heap.size wr w8 := Or.elim hw8 (fun h_ => (by rw [h_]; exact Below.refl _ _)) (fun h_ => (by obtain ⟨t_, h2_⟩ := h_; rw [h2_]; exact Lib.bytesWorld_below _ _ _)); clear hw8; replace HO2 := rB HO2 hb; replace HQ := rB HQ hb; replace BW := kB BW hb; replace HB := bS HB hb; clear hb hx))
                          go_ret2
                          exact ⟨_, rfl, Kd.R_nil _ _ _ _ _, bP HB⟩
                        · have v1 : decide (v < 0) = false := decide_eq_false c5
                          have HV0 := Aside0.mk c5
                          clear c5
                          by_cases c6 : v ≥ n
                          · have HV := Aside0.mk c6
                            have v2 : decide (v ≥ n) = true := decide_eq_true c6
                            have v3 : decide (n ≤ v) = true := decide_eq_true c6
                            clear c6
                            have e0 : impl_PermFrom.pts n ws [] = none := by rw [← HP.out, impl_PermFrom.pts_at HUU.out, HAT.out]; exact (if_neg HV0.out).trans (if_pos HV.out)
                            have H := H'.out
                            rw [e0] at H
                            have o7 : o = none := (Option.some.inj H).symm
                            subst o7
                            clear H e0
                            obtain ⟨rfl, rfl⟩ := Prod.mk.inj (Option.some.inj A3.out)
                            go_wp2_with (first | ((with_reducible refine gate_callee (f := 34) rfl ?_); refine gL (some 62) Tryz.func34 #[.string u] ?_; refine (Tryz.strconv_Atoi_ok u (by have := HU.out; omega) v HAT.out _).mono ?_; rintro e w8 ⟨rfl, hw8⟩; refine ⟨_, rfl, ?_⟩; have hb : Below wr.heap.size wr w8 := Or.elim hw8 (fun h_ => (by rw [h_]; exact Below.refl _ _)) (fun h_ => (by obtain ⟨t_, h2_⟩ := h_; rw [h2_]; exact Lib.bytesWorld_below _ _ _)); clear hw8; replace HO2 := rB HO2 hb; replace HQ := rB HQ hb; replace BW := kB BW hb; replace HB := bS HB hb; clear hb hx))
                            go_ret2
                            exact ⟨_, rfl, Kd.R_nil _ _ _ _ _, bP HB⟩
                          · have v2 : decide (v ≥ n) = false := decide_eq_false c6
                            have v3 : decide (n ≤ v) = false := decide_eq_false c6
                            have HV := Aside0.mk c6
                            clear c6
                            go_wp2_with (first | ((with_reducible refine gate_callee (f := 34) rfl ?_); refine gL (some 62) Tryz.func34 #[.string u] ?_; refine (Tryz.strconv_Atoi_ok u (by have := HU.out; omega) v HAT.out _).mono ?_; rintro e w8 ⟨rfl, hw8⟩; refine ⟨_, rfl, ?_⟩; have hb : Below wr.heap.size wr w8 := Or.elim hw8 (fun h_ => (by rw [h_]; exact Below.refl _ _)) (fun h_ => (by obtain ⟨t_, h2_⟩ := h_; rw [h2_]; exact Lib.bytesWorld_below _ _ _)); clear hw8; replace HO2 := rB HO2 hb; replace HQ := rB HQ hb; replace BW := kB BW hb; replace HB := bS HB hb; clear hb hx) | ((with_reducible refine gate_builtin (b := .append) (xs := #[.tmp 76, .tmp 78]) rfl ?_); at_builtin; refine Kd.R_append (Kd.int .i64) (w0 := w) w.heap.size rfl (.tmp 76) (.tmp 78) 22 3 (.int .i64 0) 8 rfl Tryz.underlying22 info3 rfl (by decide) (by omega) u13 q v [.int .i64 v] (fun k_ => some k_ ≠ (.slice Ap p.length cp : Value).ownBlock) (fun _ => False) rfl rfl ?aP (fun _ hk => hk.elim) ?aF ?aO ?aB ?aS ?aL ?_; (case aP => exact rfl); (case aB => exact (bP HB)); (case aF => exact (fun k_ hk => Kd.fresh' (Kd.R_lt (rP HO2)) k_ hk)); (case aO => exact (rP HQ)); (case aS => exact (below_size (bP HB))); (case aL => have := HQL.out; have := HI.out; have := (impl_PermFrom.fine_at HF.out).1; omega); intro v9 w9 ho hb hg hat_; have hne_ : some gb ≠ (u13 : Value).ownBlock := Kd.R_ne HQ.out BW.out (by decide); replace HO2 := Aside0.mk (Kd.R_after (ok := (fun _ => True)) (by (with_reducible repeat (first | apply Kd.R_alloc | apply Kd.R_drewN | apply Kd.R_drew)); exact Kd.R_mono HO2.out (fun _ hk => ⟨trivial, hk⟩)) hg hat_); replace BW : Aside0 (w9.heap[gb]? = some (.cells (ws.map Value.string).toArray 9 (0, 0))) := ⟨blk_grown (kP BW) hg hne_⟩; replace HB := Aside0.mk hb; have HQ2 := Aside0.mk ho; clear HQ; clear ho hb hg hat_ hne_))
                            go_roundg k2
                            case measure => omega
                            case rel => exact ⟨i + 1, q ++ [v], by rw [impl_PermFrom.up HI.out (impl_PermFrom.fine_at HF.out).1], ⟨by have := HK2.out; omega⟩, ⟨by rw [← HP.out, impl_PermFrom.pts_at HUU.out, HAT.out]; exact ((if_neg (show ¬ v < 0 by have := HV0.out; omega)).trans (if_neg (show ¬ v ≥ n by have := HV.out; omega))).symm⟩, ⟨by rw [List.length_append]; have := HQL.out; simp; omega⟩, ⟨by (with_reducible repeat (first | apply Kd.R_alloc | apply Kd.R_drewN | apply Kd.R_drew)); exact Kd.R_mono HO2.out (fun _ hk => hk.2)⟩, ⟨rP HQ2⟩, ⟨kP BW⟩, ⟨bP HB⟩⟩
                    · have ei : i = ws.length := by have := HK2.out; omega
                      have e1 : impl_PermFrom.pts n ws [] = some q := by
                        rw [← HP.out, List.drop_of_length_le (by omega)]; rfl
                      have H := H'.out
                      rw [e1] at H
                      have HMEM := Aside0.mk (impl_PermFrom.pts_mem e1 (fun x hx => by simp at hx))
                      have HH := Aside0.mk (show impl_PermFrom.l0 n l k1 (impl_PermFrom.put q q.length 0 p) a2 = some o from H)
                      have HQ1 : Aside0 (q.length ≤ 10000000) := ⟨by have := HQL.out; have := (impl_PermFrom.fine_at HF.out).1; omega⟩
                      have i1 : decide ((i : Int) < (ws.length : Int)) = false := decide_eq_false (by omega)
                      have i2 : decide (i < ws.length) = false := decide_eq_false hi
                      clear hi ei e1 H H'
                      obtain ⟨Aq, cq, eq_⟩ := Kd.R_slice HQ.out
                      subst eq_
                      go_wp2
                      go_loopg [83] q.length (fun kq v83 w' => ∃ (j : Nat) (p2 : List Int), v83 = .int .i64 j ∧ Aside0 (j + kq = q.length) ∧ Aside0 (impl_PermFrom.put q kq j p2 = impl_PermFrom.put q q.length 0 p) ∧ Aside0 (Kd.R (Kd.int .i64) 3 w' w.heap.size (fun k_ => some k_ ≠ (.slice Aq q.length cq : Value).ownBlock) (.slice Ap p.length cp) p2) ∧ Aside0 (Kd.R (Kd.int .i64) 3 w' w.heap.size (fun k_ => some k_ ≠ (.slice Ap p.length cp : Value).ownBlock) (.slice Aq q.length cq) q) ∧ Aside0 (Below w.heap.size w w'))
                      case atStart => exact ⟨0, p, rfl, ⟨by omega⟩, ⟨rfl⟩, ⟨rP HO2⟩, ⟨rP HQ⟩, ⟨bP HB⟩⟩
                      case round =>
                        clear HO2 HQ HB
                        obtain ⟨j, p2, rfl, HK3, HPU, HO2, HQ, HB⟩ := hrel
                        have hl2 := (Kd.R_reads' HO2.out).1
                        by_cases hj : j < q.length
                        · obtain ⟨k3, rfl⟩ : ∃ k3, gk = k3 + 1 := ⟨gk - 1, by have := HK3.out; omega⟩
                          have qz : (q.length : Int) ≠ 0 := by omega
                          have jz : (j : Int) < (q.length : Int) := Int.ofNat_lt.2 hj
                          have hmm : (j + 1) % q.length < q.length := Nat.mod_lt _ (by omega)
                          obtain ⟨m, hm⟩ : ∃ m, m = (j + 1) % q.length := ⟨_, rfl⟩
                          rw [← hm] at hmm
                          have b0 := HMEM.out _ (impl_PermFrom.mem_rd hj)
                          obtain ⟨x, hxx⟩ : ∃ x, x = rd q (j : Int) := ⟨_, rfl⟩
                          obtain ⟨y, hyy⟩ : ∃ y, y = rd q (m : Int) := ⟨_, rfl⟩
                          rw [← hxx] at b0
                          have hxp : x < (p.length : Int) := by have := HNP.out; omega
                          obtain ⟨go, co', eo, gb_, gl, cl, HG⟩ := Kd.R_form HO2.out (by omega)
                          rw [← hl2] at eo
                          cases eo
                          have GB := Aside0.mk gb_
                          clear gb_ gl HG
                          obtain ⟨ad, e, hx⟩ := Kd.at_int (Kd.R_reads' HQ.out).2.2 (j : Int) (by omega) (by omega)
                          cases e
                          obtain ⟨ad2, e2, hy⟩ := Kd.at_int (Kd.R_reads' HQ.out).2.2 (m : Int) (by omega) (by omega)
                          obtain rfl : ad = ad2 := (by injection e2)
                          rw [← hxx, Int.toNat_natCast] at hx
                          rw [← hyy, Int.toNat_natCast] at hy
                          have HPP := Kd.R_putg HO2.out x y
                          obtain ⟨hz_, hfz⟩ := Kd.R_celln 0 HO2.out x b0.1 hxp
                          have HNEW : Aside0 (impl_PermFrom.put q k3 (j + 1) (p2.set x.toNat y) = impl_PermFrom.put q q.length 0 p) := ⟨(impl_PermFrom.put_step hxx hm hyy).symm.trans HPU.out⟩
                          have w1 := impl_PermFrom.up hj HQ1.out
                          have w3 : Int.tmod (wrap64 ((j : Int) + 1)) (q.length : Int) = (m : Int) := by rw [w1, impl_PermFrom.tmod_nat, ← hm]
                          have w4 := impl_PermFrom.small_wrap hmm HQ1.out
                          have HW := Aside0.mk w1
                          have z0 : ((q.length : Int) == 0) = false := beq_eq_false_iff_ne.mpr qz
                          have z1 : ((q.length : Int) = 0) = False := eq_false qz
                          have j1 : decide ((j : Int) < (q.length : Int)) = true := decide_eq_true jz
                          have j2 : decide (j < q.length) = true := decide_eq_true hj
                          have j3 := eq_true jz
                          have j4 := eq_true hj
                          have m3 := eq_true (Int.ofNat_lt.2 hmm)
                          have m4 := eq_true hmm
                          have x1 := eq_true b0.1
                          have x2 := eq_true hxp
                          have HL2 := Aside0.mk hl2
                          have z2 : (q.length = 0) = False := eq_false (fun e => qz (by rw [e]; rfl))
                          have z3 : (q.length == 0) = false := beq_eq_false_iff_ne.mpr (fun e => qz (by rw [e]; rfl))
                          clear hj hmm b0 hxp w1 hxx hyy hm qz jz hl2
                          go_wp2_with (first | ((with_reducible refine gate_store (t := 3) (p := 98) rfl ?_); refine store_event (t := 3) (p := 98) (v := ?vo_w15) (w1 := (wr.setCell ⟨go, x.toNat, none⟩ (.int .i64 y))) ?hg ?ho ?hn ?hr ?_; (case ho => rfl); (case hg => rfl); (case hn => rfl); (case hr => first | (go_simp; done) | (go_simp; rfl)); intro w15 hw; have hg : wr.grownBy w15 (some go) := (by rw [hw]; exact HPP.2); have hp_ : Kd.R (Kd.int .i64) 3 w15 w.heap.size (fun k_ => some k_ ≠ (.slice (some ad) q.length cq : Value).ownBlock) (.slice (some ⟨go, 0, none⟩) p.length cp) (p2.set x.toNat y) := (by rw [hw]; exact HPP.1); clear HPP; replace HQ : Aside0 (Kd.R (Kd.int .i64) 3 w15 w.heap.size (fun k_ => some k_ ≠ (.slice (some ⟨go, 0, none⟩) p.length cp : Value).ownBlock) (.slice (some ad) q.length cq) q) := ⟨Kd.R_grown HQ.out hg (fun k_ hk => hk)⟩; replace HO2 := Aside0.mk (hp_); replace HB := Aside0.mk ((by rw [hw]; exact below_set (HB.out) GB.out : Below w.heap.size w w15)); clear hg hw hp_ hx hy))
                          go_roundg k3
                          case measure => omega
                          case rel => exact ⟨j + 1, p2.set x.toNat y, by rw [HW.out], ⟨by have := HK3.out; omega⟩, HNEW, ⟨rP HO2⟩, ⟨rP HQ⟩, ⟨bP HB⟩⟩
                        · have e3 : gk = 0 := by have := HK3.out; omega
                          subst e3
                          have e4 : p2 = impl_PermFrom.put q q.length 0 p := HPU.out
                          have HH2 : Aside0 (impl_PermFrom.l0 n l k1 p2 a2 = some o) := ⟨by rw [e4]; exact HH.out⟩
                          have j1 : decide ((j : Int) < (q.length : Int)) = false := decide_eq_false (fun e => hj (Int.ofNat_lt.1 e))
                          have j2 : decide (j < q.length) = false := decide_eq_false hj
                          clear hj e4 hl2
                          go_wp2
                          (try simp only [← hl])
                          go_roundg k1
                          case measure => have := HK.out; omega
                          case rel => exact ⟨p2, a2, rfl, HH2, ⟨by have := HK.out; omega⟩, ⟨HN.out.2⟩, ⟨by (try simp only [hl]); (with_reducible repeat (first | apply Kd.R_alloc | apply Kd.R_drewN | apply Kd.R_drew)); exact Kd.R_mono HO2.out (fun _ _ => trivial)⟩, ⟨bP HB⟩⟩
                · rw [if_neg hf] at H
                  exact absurd H (by simp)
  · rw [if_neg (by simpa using h3)] at h
    exact absurd h (by simp)

/-! ### impl_back: function 35 -/
def impl_back.l0 : Nat → List Int → List Int → Int → Int → Option (List Int)
 | 0, _, _, _, _ => none
 | k + 1, x3, x9, x10, x11 => if x11 < x10 then (if 0 ≤ x11 then (if x11 < (x9.length : Int) then (if 0 ≤ (rd x9 x11) then (if (rd x9 x11) < (x3.length : Int) then (impl_back.l0 k (x3.set ((rd x9 x11) : Int).toNat x11) x9 x10 (wrap64 (x11 + 1))) else (none)) else (none)) else (none)) else (none)) else (some x3)
def impl_back.f (k : Nat) (l0 : List Int) : Option (List Int) := if 0 ≤ (l0.length : Int) then (if ((l0.length : Int) : Int).toNat ≤ 35184372088832 then (impl_back.l0 k (List.replicate ((l0.length : Int) : Int).toNat 0) l0 (l0.length : Int) 0) else (none)) else (none)
set_option maxHeartbeats 8000000 in
set_option maxRecDepth 100000 in
theorem impl_back.calls (k : Nat) (A0 : Option Addr) (c0 : Nat) (l0 : List Int) (r : List Int) (w : World) (hr0 : Kd.C (Kd.int .i64) w A0 l0.length l0) (hc0 : l0.length ≤ c0) (h : impl_back.f k l0 = some r) :
 Calls Tryz.prog 35 #[.slice A0 l0.length c0] w fun e w' => ∃ v0_ : Value, e = .returned (v0_) ∧ Kd.R (Kd.int .i64) 3 w' w.heap.size (fun _ => True) v0_ r ∧ Below w.heap.size w w' := by
 have HR0 := Aside0.mk hr0
 have HC0 := Aside0.mk hc0
 clear hr0 hc0
 have HB := Aside0.mk (Below.refl w.heap.size w)
 have H : (if 0 ≤ (l0.length : Int) then (if ((l0.length : Int) : Int).toNat ≤ 35184372088832 then (impl_back.l0 k (List.replicate ((l0.length : Int) : Int).toNat 0) l0 (l0.length : Int) 0) else (none)) else (none)) = some r := h
 clear h
 by_cases c2 : 0 ≤ (l0.length : Int)
 ·rw [if_pos c2] at H
  have c2b0 := eq_true c2
  have c2b1 : decide (0 ≤ (l0.length : Int)) = true := decide_eq_true c2
  clear c2
  by_cases c3 : ((l0.length : Int) : Int).toNat ≤ 35184372088832
  case neg =>
   rw [if_neg c3] at H
   exact absurd H (by simp)
  rw [if_pos c3] at H
  have c3b0 := eq_true c3
  have c3b1 : decide (((l0.length : Int) : Int).toNat ≤ 35184372088832) = true := decide_eq_true c3
  clear c3
  obtain ⟨y216, hy216⟩ : ∃ y_ : List Int, y_ = (List.replicate ((l0.length : Int) : Int).toNat 0) := ⟨_, rfl⟩
  replace H : (impl_back.l0 k y216 l0 (l0.length : Int) 0) = some r := by first | (rw [hy216]; with_reducible exact H) | (have H2_ := (Option.bind_some _ _).symm.trans H; rw [hy216]; with_reducible exact H2_) | (have H2_ := (Option.bind_some _ _).symm.trans H; with_reducible exact H2_) | with_reducible exact H | (rw [hy216]; exact H) | exact H
  have Ny216 := Aside0.mk hy216
  clear hy216
  have H' := Aside0.mk H
  clear H
  go_enter Tryz.func35, Tryz.ntmps35
  go_wp2_with (first | ((with_reducible refine gate_dst (N := 8) rfl ?_); refine Kd.R_make (Kd.int .i64) _ 3 rfl (N := 8) rfl 22 _ _ rfl (l0.length : Int) rfl rfl Tryz.underlying22 (.int .i64 0) 8 info3 rfl (by decide) (by omega) 0 (ok := fun _ => True) (okp := fun _ => True) rfl (fun _ hk => hk) trivial (dT) (Nat.le_trans (Nat.mul_le_mul_right _ (dT : (l0.length : Int).toNat ≤ 35184372088832)) (by omega)) (Below.refl _ _) (Nat.le_refl _) ?_; intro v217 w4 ho5 hb hg_ hnew_; clear hg_ hnew_; (first | rw [← Ny216.out] at ho5 | (simp only [Int.reduceToNat] at ho5; rw [← Ny216.out] at ho5)); have HO218 := rL ho5 HB; replace HB := bS HB hb; clear hb ho5))
  go_loopg [11] k (fun kq v11 w' => ∃ (x3_1 : List Int) (x11_1 : Int), v11 = .int .i64 x11_1 ∧ Aside0 (impl_back.l0 kq x3_1 l0 (l0.length : Int) x11_1 = some r) ∧ Aside0 (kq ≤ k) ∧ Aside0 (Kd.R (Kd.int .i64) 3 w' w.heap.size (fun _ => True) v217 x3_1) ∧ Aside0 (Below w.heap.size w w'))
  case atStart => exact ⟨(y216), (0), eS, H', ⟨Nat.le_refl _⟩, ⟨rP HO218⟩, ⟨bP HB⟩⟩
  case round =>
   clear H'
   try clear c2
   try clear c2b0
   try clear c2b1
   try clear p2
   try clear c3
   try clear c3b0
   try clear c3b1
   obtain ⟨x3_1, x11_1, rfl, HA, HK1, HO_3, HB⟩ := hrel
   cases gk with
   | zero => exact absurd HA.out (by simp [impl_back.l0])
   | succ k1 =>
    have H := HA.out
    clear HA
    simp only [impl_back.l0] at H
    by_cases c6 : x11_1 < (l0.length : Int)
    case neg =>
     rw [if_neg c6] at H
     have c6b0 : decide (x11_1 < (l0.length : Int)) = false := decide_eq_false c6
     clear c6
     obtain rfl := Option.some.inj H
     go_wp2
     go_ret
     exact ⟨_, eR, rP HO_3, bP HB⟩
    rw [if_pos c6] at H
    have c6b0 : decide (x11_1 < (l0.length : Int)) = true := decide_eq_true c6
    clear c6
    by_cases c7 : 0 ≤ x11_1
    case neg =>
     rw [if_neg c7] at H
     exact absurd H (by simp)
    rw [if_pos c7] at H
    have c7b0 : decide (0 ≤ x11_1) = true := decide_eq_true c7
    clear c7
    by_cases c8 : x11_1 < (l0.length : Int)
    case neg =>
     rw [if_neg c8] at H
     exact absurd H (by simp)
    rw [if_pos c8] at H
    have c8b0 : decide (x11_1 < (l0.length : Int)) = true := decide_eq_true c8
    clear c8
    by_cases c9 : 0 ≤ (rd l0 x11_1)
    case neg =>
     rw [if_neg c9] at H
     exact absurd H (by simp)
    rw [if_pos c9] at H
    have c9b0 : decide (0 ≤ (rd l0 x11_1)) = true := decide_eq_true c9
    clear c9
    by_cases c10 : (rd l0 x11_1) < (x3_1.length : Int)
    case neg =>
     rw [if_neg c10] at H
     exact absurd H (by simp)
    rw [if_pos c10] at H
    have c10b0 : decide ((rd l0 x11_1) < (x3_1.length : Int)) = true := decide_eq_true c10
    clear c10
    obtain ⟨y220, hy220⟩ : ∃ y_ : List Int, y_ = (x3_1.set ((rd l0 x11_1) : Int).toNat x11_1) := ⟨_, rfl⟩
    replace H : (impl_back.l0 k1 y220 l0 (l0.length : Int) (wrap64 (x11_1 + 1))) = some r := by first | (rw [hy220]; with_reducible exact H) | (have H2_ := (Option.bind_some _ _).symm.trans H; rw [hy220]; with_reducible exact H2_) | (have H2_ := (Option.bind_some _ _).symm.trans H; with_reducible exact H2_) | with_reducible exact H | (rw [hy220]; exact H) | exact H
    have Ny220 := Aside0.mk hy220
    clear hy220
    have H' := Aside0.mk H
    clear H
    have p219 : 0 ≤ (x11_1 : Int) := dT
    have q219 : x11_1 < (l0.length : Int) := dT
    obtain ⟨ad219, e219, hx219_0⟩ := Kd.at_int HR0.out x11_1 p219 q219
    cases e219
    replace hx219_0 := (HB.out.cell (World.block_lt_of_cell? w _ hx219_0)).trans hx219_0
    replace p219 := eq_true p219
    replace q219 := eq_true q219
    have p11 : 0 ≤ ((rd l0 x11_1) : Int) := dT
    have q11 : ((rd l0 x11_1) : Int) < ((x3_1.length : Int) : Int) := dT
    obtain ⟨go11, co11, eo11, gb11, gl11, cl11, HG11⟩ := Kd.R_form HO_3.out (by omega)
    (first | cases eo11 | (injection eo11 with ea_ en_ ec_; (first | subst ea_ | (injection ea_ with ea_; subst ea_)); subst ec_; clear en_))
    have GB11 := Aside0.mk gb11
    have GG11 := Aside0.mk HG11
    clear gb11 gl11 HG11
    obtain ⟨hx11_0, hf11_0⟩ := Kd.R_celln 0 HO_3.out ((rd l0 x11_1) : Int) p11 q11
    replace p11 := eq_true p11
    replace q11 := eq_true q11
    have HP12 := Kd.R_putg HO_3.out ((rd l0 x11_1) : Int) x11_1
    go_wp2_with (first | ((with_reducible refine gate_store (t := 3) (p := 19) rfl ?_); refine store_event (t := 3) (p := 19) (v := ?vo_w13) (w1 := (wr.setCell ⟨go11, ((rd l0 x11_1) : Int).toNat, none⟩ (.int .i64 x11_1))) ?hg ?ho ?hn ?hr ?_; (case ho => rfl); (case hg => rfl); (case hn => rfl); (case hr => first | (go_simp; done) | (go_simp; rfl)); intro w13 hw; have hg : wr.grownBy w13 (some go11) := (by rw [hw]; exact HP12.2); have hp_ : Kd.R (Kd.int .i64) 3 w13 w.heap.size (fun _ => True) (.slice (some ⟨go11, 0, none⟩) x3_1.length co11) y220 := (by rw [hw, Ny220.out]; exact HP12.1); clear HP12; replace HO_3 := Aside0.mk (hp_); replace HB := Aside0.mk ((by rw [hw]; exact below_set (HB.out) GB11.out : Below w.heap.size w w13)); clear hg hw hp_))
    go_roundg k1
    case measure => have := HK1.out; omega
    case rel => exact ⟨(y220), (wrap64 (x11_1 + 1)), eS, H', ⟨by have := HK1.out; omega⟩, ⟨rP HO_3⟩, ⟨bP HB⟩⟩
 ·rw [if_neg c2] at H
  exact absurd H (by simp)

end Go.Proofs.YtieaplnngmgkeaaGreatDoor.F
