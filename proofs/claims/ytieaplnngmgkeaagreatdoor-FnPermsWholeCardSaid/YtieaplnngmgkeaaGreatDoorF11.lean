/- Contracts: what these Go functions return. -/
import Derived.Test.YtieaplnngmgkeaaGreatDoorF0
import Derived.Test.YtieaplnngmgkeaaGreatDoorS
import Derived.Test.YtieaplnngmgkeaaGreatDoorB
import Derived.Test.YtieaplnngmgkeaaGreatDoorF1
import Derived.Test.YtieaplnngmgkeaaGreatDoorF9
namespace Go.Proofs.YtieaplnngmgkeaaGreatDoor.F
open Go.RowKit Go.Proofs.YtieaplnngmgkeaaGreatDoorW.PrintWords Go.Proofs.YtieaplnngmgkeaaGreatDoorW.PrintLast Go.Proofs.YtieaplnngmgkeaaGreatDoorW.PrintMore
attribute [local go_sem] max2_int min2_int max_two min_two max_three min_three max_four min_four
set_option linter.unusedVariables false
set_option linter.unusedSimpArgs false

/-! ### impl_PermText: function 11 -/
/-- the numbers of a cycle, each behind its sign -/
def impl_PermText.items : Bool → List Int → List UInt8
 | _, [] => []
 | b, n :: t => (if b then 40 else 44) :: (Lib.decDigits n.toNat ++ impl_PermText.items false t)
def impl_PermText.row (c : List Int) : List UInt8 := if c.length < 2 then [] else impl_PermText.items true c ++ [41]
def impl_PermText.txt : List (List Int) → List UInt8
 | [] => []
 | c :: t => impl_PermText.row c ++ impl_PermText.txt t
def impl_PermText.small (cs : List (List Int)) : Bool := cs.all (fun c => decide (c.length ≤ 100000) && c.all fun n => decide (0 ≤ n) && decide (n < 100)) && (decide ((impl_PermText.txt cs).length ≤ 100000) && decide (cs.length ≤ 100000))
def impl_PermText.f (k : Nat) (l0 : List Int) : Option ByteArray := (impl_PermValid.f l0).bind fun ok => if ok = true then ((impl_cyclesOf.f k l0).bind fun cs => if impl_PermText.small cs = true then (if impl_PermText.txt cs = [] then some (⟨#[40, 41]⟩ : ByteArray) else some (⟨(impl_PermText.txt cs).toArray⟩ : ByteArray)) else none) else some (⟨#[]⟩ : ByteArray)
theorem impl_PermText.keep {b base : Nat} {w w1 : World} {v : Value} {xs : List (List Int)} (h : Kd.S (Kd.slice 3 (Kd.int .i64)) 22 w base (fun k => k ≠ b) v xs) (hk : Lib.OthersKept 5 (some b) w w1) : Kd.S (Kd.slice 3 (Kd.int .i64)) 22 w1 base (fun k => k ≠ b) v xs :=
 Kd.S_mono (Kd.S_move (Kd.S_bound h) (fun k hk' => by
  obtain ⟨h1, _, _, q, hq, cells, hc⟩ := hk'
  rw [hc]
  refine hk k _ hc (by simpa using h1) (fun c fz e => ?_)
  injection e with _ e2
  have : ∀ q, q ∈ 22 :: (Kd.slice 3 (Kd.int .i64)).E → q ≠ 5 := by decide
  exact this q hq e2)) (fun _ hk' => hk'.1)
theorem impl_PermText.keepR {b base : Nat} {w w1 : World} {v : Value} {xs : List Int} (h : Kd.R (Kd.int .i64) 3 w base (fun k => k ≠ b) v xs) (hk : Lib.OthersKept 5 (some b) w w1) : Kd.R (Kd.int .i64) 3 w1 base (fun k => k ≠ b) v xs :=
 Kd.R_mono (Kd.R_move (Kd.R_bound h) (fun k hk' => by
  obtain ⟨h1, _, _, q, hq, cells, hc⟩ := hk'
  rw [hc]
  refine hk k _ hc (by simpa using h1) (fun c fz e => ?_)
  injection e with _ e2
  have : ∀ q, q ∈ 3 :: (Kd.int .i64).E → q ≠ 5 := by decide
  exact this q hq e2)) (fun _ hk' => hk'.1)
theorem impl_PermText.txt_drop {cs : List (List Int)} {i : Nat} (h : i < cs.length) : impl_PermText.txt (cs.drop i) = impl_PermText.row (rd_L1 cs (i : Int)) ++ impl_PermText.txt (cs.drop (i + 1)) := by
 rw [List.drop_eq_getElem_cons h]
 have : rd_L1 cs (i : Int) = cs[i] := by unfold rd_L1; simp [List.getD_eq_getElem?_getD, h]
 rw [this]; rfl
theorem impl_PermText.items_drop {c : List Int} {b : Bool} {i : Nat} (h : i < c.length) : impl_PermText.items b (c.drop i) = (if b then 40 else 44) :: (Lib.decDigits (rd c (i : Int)).toNat ++ impl_PermText.items false (c.drop (i + 1))) := by
 rw [List.drop_eq_getElem_cons h]
 have : rd c (i : Int) = c[i] := by unfold rd; simp [h]
 rw [this]; rfl
theorem impl_PermText.small_at {cs : List (List Int)} (h : impl_PermText.small cs = true) {i j : Nat} (hi : i < cs.length) (hj : j < (rd_L1 cs (i : Int)).length) : 0 ≤ rd (rd_L1 cs (i : Int)) (j : Int) ∧ rd (rd_L1 cs (i : Int)) (j : Int) < 100 := by
 have e1 : rd_L1 cs (i : Int) = cs[i] := by unfold rd_L1; simp [List.getD_eq_getElem?_getD, hi]
 rw [e1] at hj ⊢
 have e2 : rd cs[i] (j : Int) = cs[i][j] := by unfold rd; simp [hj]
 rw [e2]
 unfold impl_PermText.small at h
 simp only [Bool.and_eq_true, List.all_eq_true, decide_eq_true_eq] at h
 exact (h.1 _ (List.getElem_mem hi)).2 _ (List.getElem_mem hj)
theorem impl_PermText.small_len {cs : List (List Int)} (h : impl_PermText.small cs = true) : (impl_PermText.txt cs).length ≤ 100000 ∧ cs.length ≤ 100000 ∧ ∀ i, i < cs.length → (rd_L1 cs ((i : Nat) : Int)).length ≤ 100000 := by
 unfold impl_PermText.small at h
 simp only [Bool.and_eq_true, List.all_eq_true, decide_eq_true_eq] at h
 refine ⟨h.2.1, h.2.2, fun i hi => ?_⟩
 have e1 : rd_L1 cs (i : Int) = cs[i] := by unfold rd_L1; simp [List.getD_eq_getElem?_getD, hi]
 rw [e1]
 exact (h.1 _ (List.getElem_mem hi)).1
theorem impl_PermText.up {i n : Nat} (h : i < n) (hn : n ≤ 100000) : wrap64 ((i : Int) + 1) = ((i + 1 : Nat) : Int) := by unfold wrap64; omega
theorem impl_PermText.cells (a : UInt8) (l acc : List UInt8) : Lib.byteCells acc ++ Lib.strCells (⟨#[a]⟩ ++ ⟨l.toArray⟩) = Lib.byteCells (acc ++ a :: l) := by
 rw [Lib.byteCells_append, Lib.strCells_eq]
 congr 2
theorem impl_PermText.cell1 (acc : List UInt8) : Lib.byteCells acc ++ Lib.strCells (⟨#[41]⟩ : ByteArray) = Lib.byteCells (acc ++ [41]) := by
 rw [Lib.byteCells_append, Lib.strCells_eq]
theorem impl_PermText.size_cat (a : UInt8) (l : List UInt8) : ((⟨#[a]⟩ : ByteArray) ++ ⟨l.toArray⟩).size = 1 + l.length := by
 rw [ByteArray.size_append]; rfl
theorem impl_PermText.step {c : List Int} {acc acc2 : List UInt8} {j m : Nat} {b : Bool} (hb : (j == 0) = b) (hm : rd c (j : Int) = m) (HD : impl_PermText.items (j == 0) (c.drop j) = (if (j == 0) then 40 else 44) :: (Lib.decDigits (rd c (j : Int)).toNat ++ impl_PermText.items false (c.drop (j + 1)))) (HA : acc2 ++ impl_PermText.items (j == 0) (c.drop j) = acc ++ impl_PermText.items true c) :
 (acc2 ++ (if b then 40 else 44) :: Lib.decDigits m) ++ impl_PermText.items (j + 1 == 0) (c.drop (j + 1)) = acc ++ impl_PermText.items true c := by
 rw [← HA, HD, hm, hb, Int.toNat_natCast]
 have : (j + 1 == 0) = false := by simp
 rw [this]; simp
theorem impl_PermText.bound {cs : List (List Int)} {c : List Int} {acc acc2 : List UInt8} {i j m : Nat} (hm : rd c (j : Int) = m) (HD : impl_PermText.items (j == 0) (c.drop j) = (if (j == 0) then 40 else 44) :: (Lib.decDigits (rd c (j : Int)).toNat ++ impl_PermText.items false (c.drop (j + 1)))) (HA : acc2 ++ impl_PermText.items (j == 0) (c.drop j) = acc ++ impl_PermText.items true c)
 (HA1 : acc ++ impl_PermText.txt (cs.drop i) = impl_PermText.txt cs) (HD1 : impl_PermText.txt (cs.drop i) = impl_PermText.row c ++ impl_PermText.txt (cs.drop (i + 1))) (h2 : ¬ (c.length : Int) < 2) (hl : (impl_PermText.txt cs).length ≤ 100000) : acc2.length + (1 + (Lib.decDigits m).length) ≤ 100000 := by
 have a1 := congrArg List.length HA
 have a2 := congrArg List.length HA1
 rw [HD, hm, Int.toNat_natCast] at a1
 rw [HD1] at a2
 unfold impl_PermText.row at a2
 rw [if_neg (by omega)] at a2
 simp only [List.length_append, List.length_cons, List.length_nil] at a1 a2
 omega
set_option maxHeartbeats 8000000 in
set_option maxRecDepth 100000 in
theorem impl_PermText.calls (k : Nat) (A0 : Option Addr) (c0 : Nat) (l0 : List Int) (r : ByteArray) (w : World) (hr0 : Kd.C (Kd.int .i64) w A0 l0.length l0) (hc0 : l0.length ≤ c0) (h : impl_PermText.f k l0 = some r) :
 Calls Tryz.prog 11 #[.slice A0 l0.length c0] w fun e w' => e = .returned (.string r) ∧ Below w.heap.size w w' := by
 have HR0 := Aside0.mk hr0
 have HC0 := Aside0.mk hc0
 have HB := Aside0.mk (Below.refl w.heap.size w)
 clear hr0 hc0
 unfold impl_PermText.f at h
 obtain ⟨ok, h1, h2⟩ := Option.bind_eq_some_iff.mp h
 clear h
 have A1 := Aside0.mk h1
 clear h1
 cases ok with
 | false =>
  rw [if_neg (by decide)] at h2
  obtain rfl := Option.some.inj h2
  clear h2
  go_enter Tryz.func11, Tryz.ntmps11
  go_wp2_with (first | ((with_reducible refine gate_callee (f := 4) rfl ?_); refine gL (some 10) Tryz.func4 #[.slice A0 l0.length c0] ?_; (with_reducible refine (impl_PermValid.calls _ _ l0 false _ ?side1 ?side2 A1.out).mono ?_); (case side1 => exact cP HR0.out); (case side2 => exact HC0.out); rintro e w1 ⟨rfl, hb⟩; refine ⟨_, rfl, ?_⟩; replace HB := bS HB hb; clear hb))
  go_ret
  exact ⟨rfl, bP HB⟩
 | true =>
  rw [if_pos rfl] at h2
  obtain ⟨cs, h3, h4⟩ := Option.bind_eq_some_iff.mp h2
  clear h2
  have A2 := Aside0.mk h3
  clear h3
  by_cases hs : impl_PermText.small cs = true
  ·rw [if_pos hs] at h4
   have HS := Aside0.mk hs
   have H := Aside0.mk h4
   clear hs h4
   have HL : Aside0 ((impl_PermText.txt cs).length ≤ 100000) := ⟨(impl_PermText.small_len HS.out).1⟩
   go_enter Tryz.func11, Tryz.ntmps11
   go_wp2_with (first
    | ((with_reducible refine gate_callee (f := 4) rfl ?_); refine gL (some 10) Tryz.func4 #[.slice A0 l0.length c0] ?_; (with_reducible refine (impl_PermValid.calls _ _ l0 true _ ?side1 ?side2 A1.out).mono ?_); (case side1 => exact cP HR0.out); (case side2 => exact HC0.out); rintro e w1 ⟨rfl, hb⟩; refine ⟨_, rfl, ?_⟩; replace HB := bS HB hb; clear hb)
    | ((with_reducible refine gate_dst (N := 3) rfl ?_); refine bE 3 #[.pointer none, .slice none 0 0] 40 ?_; intro b hg w5 hbox hb; have BB := Aside0.mk hbox; have GB := gS HB hg; replace HB := bS HB hb; clear hb hbox hg)
    | ((with_reducible refine gate_callee (f := 26) rfl ?_); refine gL (some 13) Tryz.func26 #[.slice A0 l0.length c0] ?_; (with_reducible refine (impl_cyclesOf.calls k _ _ l0 cs _ ?side1 ?side2 A2.out).mono ?_); (case side1 => exact Kd.C_below HR0.out (bP HB)); (case side2 => exact HC0.out); rintro e w6 ⟨v6, rfl, ho0, hb⟩; refine ⟨_, rfl, ?_⟩; have hlt := blk_lt BB.out; have q_ := Kd.S_bound ho0; have hl_ : w.heap.size ≤ w5.heap.size := below_size HB.out; have HO : Aside0 (Kd.S (Kd.slice 3 (Kd.int .i64)) 22 w6 w.heap.size (fun k => k ≠ b) v6 cs) := ⟨Kd.S_lower (Kd.S_mono (ok' := fun k => k ≠ b) q_ (fun k_ hk => by have := hk.2.1; omega)) hl_⟩; clear hl_; clear q_ hlt ho0; replace BB := kB BB hb; replace HB := bS HB hb; clear hb; obtain ⟨Ao, co, eo⟩ := Kd.S_slice HO.out; subst eo))
   go_loopg [15] cs.length (fun kq v15 w' => ∃ (i : Nat) (acc : List UInt8), v15 = .int .i64 i ∧ Aside0 (i + kq = cs.length) ∧ Aside0 (acc ++ impl_PermText.txt (cs.drop i) = impl_PermText.txt cs) ∧ Aside0 (Lib.IsBuilderF 40 5 w.heap.size b (Lib.byteCells acc) w') ∧ Aside0 (Kd.S (Kd.slice 3 (Kd.int .i64)) 22 w' w.heap.size (fun k => k ≠ b) (.slice Ao cs.length co) cs) ∧ Aside0 (Below w.heap.size w w'))
   case atStart => exact ⟨0, [], rfl, ⟨by omega⟩, ⟨by simp⟩, ⟨Lib.IsBuilderF.of (.inl ⟨GB.out, .slice none 0 0, kP BB, World.ownsRow_nil _ _ _ _, by simp [Value.ownBlock]⟩)⟩, ⟨by (with_reducible repeat (first | apply Kd.S_alloc | apply Kd.S_drewN | apply Kd.S_drew)); exact HO.out⟩, ⟨bP HB⟩⟩
   case round =>
    clear HO HB BB
    obtain ⟨i, acc, rfl, HK, HA, HI, HO, HB⟩ := hrel
    by_cases hi : i < cs.length
    ·have hd := impl_PermText.txt_drop hi
     have HD := Aside0.mk hd
     clear hd
     have c1 : (i : Int) < (cs.length : Int) := by omega
     have c2 : 0 ≤ (i : Int) := by omega
     obtain ⟨g, co', eo, gb, gl, cl, HG⟩ := Kd.S_form HO.out (by omega)
     cases eo
     clear gb gl HG
     obtain ⟨oki, ce, hcl, hM, hcc, hoki, hH⟩ := Kd.S_lend HO.out [] (i : Int) c2 c1
     obtain ⟨u, rfl, hu⟩ := hM
     have hx := hcc 0 _ rfl
     rw [Nat.add_zero, show ((Kd.slice 3 (Kd.int .i64))).sz = 1 from rfl, Nat.mul_one, Int.toNat_natCast] at hx
     have hu' : Kd.R (Kd.int .i64) 3 wr w.heap.size (fun k => k ≠ b) u (rd_L1 cs (i : Int)) := Kd.R_mono hu (fun k hk => (hoki k hk).1)
     clear hcl hcc hH hoki hu
     obtain ⟨A', c', eu⟩ := Kd.R_slice hu'
     subst eu
     obtain ⟨c, hc⟩ : ∃ c, c = rd_L1 cs (i : Int) := ⟨_, rfl⟩
     rw [← hc] at hu' hx
     have HC := Aside0.mk hc
     rw [← hc] at HD
     clear hc
     have HR := Aside0.mk hu'
     clear hu'
     have c1b : decide ((i : Int) < (cs.length : Int)) = true := decide_eq_true c1
     have c1c := eq_true c1
     have c2c := eq_true c2
     have HI1 := Aside0.mk hi
     clear c1 c2 hi
     obtain ⟨k1, rfl⟩ : ∃ k1, gk = k1 + 1 := ⟨gk - 1, by have := HK.out; have := HI1.out; omega⟩
     by_cases c3 : (c.length : Int) < 2
     ·have c3b : decide ((c.length : Int) < 2) = true := decide_eq_true c3
      have HL3 := Aside0.mk c3
      clear c3
      go_wp2
      go_roundg k1
      case measure => omega
      case rel => exact ⟨i + 1, acc, by rw [impl_PermText.up HI1.out (impl_PermText.small_len HS.out).2.1], ⟨by have := HK.out; have := HI1.out; omega⟩, ⟨by rw [← HA.out, HD.out]; unfold impl_PermText.row; rw [if_pos (by have := HL3.out; omega)]; rfl⟩, HI, ⟨by (with_reducible repeat (first | apply Kd.S_alloc | apply Kd.S_drewN | apply Kd.S_drew)); exact HO.out⟩, ⟨bP HB⟩⟩
     have c3b : decide ((c.length : Int) < 2) = false := decide_eq_false c3
     have HL3 := Aside0.mk c3
     clear c3
     go_wp2
     go_loopg [24] c.length (fun kq v24 w' => ∃ (j : Nat) (acc2 : List UInt8), v24 = .int .i64 j ∧ Aside0 (j + kq = c.length) ∧ Aside0 (acc2 ++ impl_PermText.items (j == 0) (c.drop j) = acc ++ impl_PermText.items true c) ∧ Aside0 (Lib.IsBuilderF 40 5 w.heap.size b (Lib.byteCells acc2) w') ∧ Aside0 (Kd.S (Kd.slice 3 (Kd.int .i64)) 22 w' w.heap.size (fun k => k ≠ b) (.slice (some ⟨g, 0, none⟩) cs.length co) cs) ∧ Aside0 (Kd.R (Kd.int .i64) 3 w' w.heap.size (fun k => k ≠ b) (.slice A' c.length c') c) ∧ Aside0 (Below w.heap.size w w'))
     case atStart => exact ⟨0, acc, rfl, ⟨by omega⟩, ⟨by simp⟩, HI, ⟨by (with_reducible repeat (first | apply Kd.S_alloc | apply Kd.S_drewN | apply Kd.S_drew)); exact HO.out⟩, ⟨rP HR⟩, ⟨bP HB⟩⟩
     case round =>
      clear HI HO HR HB hx
      obtain ⟨j, acc2, rfl, HK2, HA2, HI, HO, HR, HB⟩ := hrel
      by_cases hj : j < c.length
      ·have hs2 := impl_PermText.small_at HS.out HI1.out (j := j) (by rw [← HC.out]; exact hj)
       rw [← HC.out] at hs2
       obtain ⟨m, hm⟩ : ∃ m : Nat, rd c (j : Int) = m := ⟨(rd c (j : Int)).toNat, by omega⟩
       have HM : Aside0 (m < 100) := ⟨by omega⟩
       have HD2 := Aside0.mk (impl_PermText.items_drop (b := (j == 0)) hj)
       have HJ := Aside0.mk hj
       have HMM := Aside0.mk hm
       have p1 : 0 ≤ (j : Int) := by omega
       have q1 : (j : Int) < (c.length : Int) := by omega
       obtain ⟨ad, e, hy⟩ := Kd.at_int (Kd.R_reads' HR.out).2.2 (j : Int) p1 q1
       cases e
       rw [hm, Int.toNat_natCast] at hy
       have q1b : decide ((j : Int) < (c.length : Int)) = true := decide_eq_true q1
       have q1c := eq_true q1
       have p1c := eq_true p1
       clear p1 q1 hs2 hj hm
       have HX := Aside0.mk (impl_PermText.bound HMM.out HD2.out HA2.out HA.out HD.out (by have := HL3.out; omega) HL.out)
       have s0 : 1 + (Lib.decDigits m).length ≤ 9223372036854775807 := by have := HX.out; omega
       have s1 : (9223372036854775807 < 1 + (Lib.decDigits m).length) = False := eq_false (Nat.not_lt.2 s0)
       have s2 : (9223372036854775807 < 1 + (⟨(Lib.decDigits m).toArray⟩ : ByteArray).size) = False := eq_false (Nat.not_lt.2 s0)
       have s3 := decide_eq_true s0
       have s4 : decide (1 + (⟨(Lib.decDigits m).toArray⟩ : ByteArray).size ≤ 9223372036854775807) = true := decide_eq_true s0
       clear s0
       obtain ⟨k2, rfl⟩ : ∃ k2, gk = k2 + 1 := ⟨gk - 1, by have := HK2.out; have := HJ.out; omega⟩
       cases hz : (j == 0) with
       | true =>
        have z1 : ((j : Int) == 0) = true := by have := eq_of_beq hz; subst this; rfl
        have z2 : decide ((j : Int) = 0) = true := by have := eq_of_beq hz; subst this; rfl
        have HZ := Aside0.mk hz
        clear hz
        go_wp2_with (first
         | ((with_reducible refine gate_callee (f := 28) rfl ?_); refine gL (some 33) Tryz.func28 #[.int .i64 (m : Int)] ?_; refine (Tryz.strconv_Itoa_small m HM.out _).mono ?_; rintro e w1 ⟨rfl, rfl⟩; refine ⟨_, rfl, ?_⟩)
         | (go_at_call 27; refine (YtieaplnngmgkeaaGreatDoor.B.writeString w.heap.size b (Lib.byteCells acc2) _ _ HI.out ?hl1 ?hl2).mono ?_; (case hl1 => rw [Lib.byteCells_length, impl_PermText.size_cat]; have := HX.out; omega); (case hl2 => exact below_size (bP HB)); rintro e w2 ⟨rfl, hA, hB2, hK⟩; replace HI : Aside0 (Lib.IsBuilderF 40 5 w.heap.size b (Lib.byteCells (acc2 ++ 40 :: Lib.decDigits m)) w2) := ⟨.inr (by rw [← impl_PermText.cells]; exact hA)⟩; replace HO : Aside0 (Kd.S (Kd.slice 3 (Kd.int .i64)) 22 w2 w.heap.size (fun k => k ≠ b) (.slice (some ⟨g, 0, none⟩) cs.length co) cs) := ⟨impl_PermText.keep (by (with_reducible repeat (first | apply Kd.S_alloc | apply Kd.S_drewN | apply Kd.S_drew)); exact HO.out) hK⟩; replace HR : Aside0 (Kd.R (Kd.int .i64) 3 w2 w.heap.size (fun k => k ≠ b) (.slice (some ad) c.length c') c) := ⟨impl_PermText.keepR (rP HR) hK⟩; clear hy; replace HB : Aside0 (Below w.heap.size w w2) := ⟨Below.trans (bP HB) hB2⟩; clear hA hB2 hK))
        go_roundg k2
        case measure => omega
        case rel => exact ⟨j + 1, acc2 ++ 40 :: Lib.decDigits m, by rw [impl_PermText.up HJ.out (by rw [HC.out]; exact (impl_PermText.small_len HS.out).2.2 i HI1.out)], ⟨by have := HK2.out; omega⟩, ⟨impl_PermText.step HZ.out HMM.out HD2.out HA2.out⟩, HI, ⟨by (with_reducible repeat (first | apply Kd.S_alloc | apply Kd.S_drewN | apply Kd.S_drew)); exact HO.out⟩, ⟨rP HR⟩, ⟨bP HB⟩⟩
       | false =>
        have z1 : ((j : Int) == 0) = false := by have := beq_eq_false_iff_ne.1 hz; rw [beq_eq_false_iff_ne]; omega
        have z2 : decide ((j : Int) = 0) = false := by have := beq_eq_false_iff_ne.1 hz; exact decide_eq_false (by omega)
        have HZ := Aside0.mk hz
        clear hz
        go_wp2_with (first
         | ((with_reducible refine gate_callee (f := 28) rfl ?_); refine gL (some 33) Tryz.func28 #[.int .i64 (m : Int)] ?_; refine (Tryz.strconv_Itoa_small m HM.out _).mono ?_; rintro e w1 ⟨rfl, rfl⟩; refine ⟨_, rfl, ?_⟩)
         | (go_at_call 27; refine (YtieaplnngmgkeaaGreatDoor.B.writeString w.heap.size b (Lib.byteCells acc2) _ _ HI.out ?hl1 ?hl2).mono ?_; (case hl1 => rw [Lib.byteCells_length, impl_PermText.size_cat]; have := HX.out; omega); (case hl2 => exact below_size (bP HB)); rintro e w2 ⟨rfl, hA, hB2, hK⟩; replace HI : Aside0 (Lib.IsBuilderF 40 5 w.heap.size b (Lib.byteCells (acc2 ++ 44 :: Lib.decDigits m)) w2) := ⟨.inr (by rw [← impl_PermText.cells]; exact hA)⟩; replace HO : Aside0 (Kd.S (Kd.slice 3 (Kd.int .i64)) 22 w2 w.heap.size (fun k => k ≠ b) (.slice (some ⟨g, 0, none⟩) cs.length co) cs) := ⟨impl_PermText.keep (by (with_reducible repeat (first | apply Kd.S_alloc | apply Kd.S_drewN | apply Kd.S_drew)); exact HO.out) hK⟩; replace HR : Aside0 (Kd.R (Kd.int .i64) 3 w2 w.heap.size (fun k => k ≠ b) (.slice (some ad) c.length c') c) := ⟨impl_PermText.keepR (rP HR) hK⟩; clear hy; replace HB : Aside0 (Below w.heap.size w w2) := ⟨Below.trans (bP HB) hB2⟩; clear hA hB2 hK))
        go_roundg k2
        case measure => omega
        case rel => exact ⟨j + 1, acc2 ++ 44 :: Lib.decDigits m, by rw [impl_PermText.up HJ.out (by rw [HC.out]; exact (impl_PermText.small_len HS.out).2.2 i HI1.out)], ⟨by have := HK2.out; omega⟩, ⟨impl_PermText.step HZ.out HMM.out HD2.out HA2.out⟩, HI, ⟨by (with_reducible repeat (first | apply Kd.S_alloc | apply Kd.S_drewN | apply Kd.S_drew)); exact HO.out⟩, ⟨rP HR⟩, ⟨bP HB⟩⟩
      have HJ := Aside0.mk hj
      have q1b : decide ((j : Int) < (c.length : Int)) = false := decide_eq_false (by omega)
      have q1d : decide (j < c.length) = false := decide_eq_false hj
      have e2 : acc2 = acc ++ impl_PermText.items true c := by
       have := HA2.out
       rw [List.drop_of_length_le (by omega)] at this
       simpa [impl_PermText.items] using this
      have HE := Aside0.mk e2
      clear hj e2
      have hx : acc2.length + 1 ≤ 100000 := by
       have a2 := congrArg List.length HA.out
       rw [HD.out] at a2
       unfold impl_PermText.row at a2
       rw [if_neg (by have := HL3.out; omega)] at a2
       have := HL.out
       rw [HE.out]
       simp only [List.length_append, List.length_cons, List.length_nil] at a2 ⊢
       omega
      have HX := Aside0.mk hx
      clear hx
      go_wp2_with (first
       | (go_at_call 27; refine (YtieaplnngmgkeaaGreatDoor.B.writeString w.heap.size b (Lib.byteCells acc2) _ _ HI.out ?hl1 ?hl2).mono ?_; (case hl1 => rw [Lib.byteCells_length, show (⟨#[41]⟩ : ByteArray).size = 1 from rfl]; have := HX.out; omega); (case hl2 => exact below_size (bP HB)); rintro e w2 ⟨rfl, hA, hB2, hK⟩; replace HI : Aside0 (Lib.IsBuilderF 40 5 w.heap.size b (Lib.byteCells (acc2 ++ [41])) w2) := ⟨.inr (by rw [← impl_PermText.cell1]; exact hA)⟩; replace HO : Aside0 (Kd.S (Kd.slice 3 (Kd.int .i64)) 22 w2 w.heap.size (fun k => k ≠ b) (.slice (some ⟨g, 0, none⟩) cs.length co) cs) := ⟨impl_PermText.keep (by (with_reducible repeat (first | apply Kd.S_alloc | apply Kd.S_drewN | apply Kd.S_drew)); exact HO.out) hK⟩; replace HB : Aside0 (Below w.heap.size w w2) := ⟨Below.trans (bP HB) hB2⟩; clear hA hB2 hK))
      go_roundg k1
      case measure => omega
      case rel =>
       refine ⟨i + 1, acc2 ++ [41], by rw [impl_PermText.up HI1.out (impl_PermText.small_len HS.out).2.1], ⟨by have := HK.out; omega⟩, ⟨?_⟩, HI, ⟨by (with_reducible repeat (first | apply Kd.S_alloc | apply Kd.S_drewN | apply Kd.S_drew)); exact HO.out⟩, ⟨bP HB⟩⟩
       rw [← HA.out, HD.out, HE.out]
       unfold impl_PermText.row
       rw [if_neg (by have := HL3.out; omega)]
       simp
    have c1b : decide ((i : Int) < (cs.length : Int)) = false := decide_eq_false (by omega)
    have c1d : decide (i < cs.length) = false := decide_eq_false hi
    have ea : acc = impl_PermText.txt cs := by
     have := HA.out
     rw [List.drop_of_length_le (by omega)] at this
     simpa [impl_PermText.txt] using this
    clear hi
    subst ea
    by_cases c4 : impl_PermText.txt cs = []
    ·have hr := H.out
     rw [if_pos c4] at hr
     obtain rfl := Option.some.inj hr
     clear hr
     have z1 : (((Lib.byteCells (impl_PermText.txt cs)).length : Int) == 0) = true := by rw [c4]; rfl
     have z2 : decide (((Lib.byteCells (impl_PermText.txt cs)).length : Int) = 0) = true := by rw [c4]; rfl
     clear c4
     go_wp2_with (first | (go_at_call 29; refine (Tryz.Builder_Len_f w.heap.size b _ _ HI.out).mono ?_; rintro e w2 ⟨rfl, rfl⟩))
     go_ret
     exact ⟨rfl, bP HB⟩
    have hr := H.out
    rw [if_neg c4] at hr
    obtain rfl := Option.some.inj hr
    clear hr
    have z0 : (Lib.byteCells (impl_PermText.txt cs)).length ≠ 0 := by rw [Lib.byteCells_length]; exact fun e => c4 (List.length_eq_zero_iff.1 e)
    have z1 : (((Lib.byteCells (impl_PermText.txt cs)).length : Int) == 0) = false := by rw [beq_eq_false_iff_ne]; omega
    have z2 : decide (((Lib.byteCells (impl_PermText.txt cs)).length : Int) = 0) = false := decide_eq_false (by omega)
    clear c4 z0
    go_wp2_with (first | (go_at_call 29; refine (Tryz.Builder_Len_f w.heap.size b _ _ HI.out).mono ?_; rintro e w2 ⟨rfl, rfl⟩) | (go_at_call 30; refine (Tryz.Builder_String_any_k w.heap.size b (impl_PermText.txt cs) _ HI.out (below_size (bP HB))).mono ?_; rintro e w2 ⟨rfl, _, hB2, _⟩; replace HB : Aside0 (Below w.heap.size w w2) := ⟨Below.trans (bP HB) hB2⟩; clear hB2))
    go_ret
    exact ⟨rfl, bP HB⟩
  ·rw [if_neg hs] at h4
   exact absurd h4 (by simp)

end Go.Proofs.YtieaplnngmgkeaaGreatDoor.F
