/-
  No cell of these rows narrows 'for every input' (looked for: loops, veiled, ifaces, maps, wideKeys, modest, calm, conditions, laid).
  DERIVED. THE GIVEN ROWS OF THIS SEAT. 9 by the template 'for every input the law returns true; each argument reads behind the call as it read before'; 0 by the template 'total and deterministic' (their statements: YtnpmaaccdpellaaTotals.lean).
  GIVEN WITH THE SEED: the statements are not yours to turn. If you find one false, say at which input.
  Laid BY PROGRAM, IN A SANDBOX (cutbox-rows.mjs): the forced cells as the released guide's own fill.sh prints them over the translation e66006e0c8b68047… (all of the seat's roots in one cut). By AI agents, Wed Nov 11 2026. No macro, syntax, notation, axiom, sorry.
-/
import Derived.Test.YtnpmaaccdpellaaChecked
import GoSem.Claim
import GoSem.ClaimJoined
import GoSem.ClaimMapViews
import Derived.JoinedTies
import Derived.KernelRfl
namespace Go.Proofs.Ytnpmaaccdpellaa
/- THE CELL 'sum', in the pinned program and in every row, IS THE sha256 OF THE DUMP (.gsa) THAT YtnpmaaccdpellaaProg.lean LOADS. Nothing in Lean hashes anything: it is a label: what it is worth is what the hold of that sum in a sandbox is worth. -/
noncomputable def Try.pinned : Pinned := { name := "ytnpmaaccdpellaa", sum := "e66006e0c8b68047a240efc24eff4cb8f5bd8c0cc28b698e0043dea162f5c7a3", checked := Try.checked }
namespace Rows
def none {H : Type} : Left H := { results := [], args := [] }

/-- 'laws.FnExactPermValid': WHATEVER THE INPUT: true; the input reads as it did. -/
def fnExactPermValidSpec : ChangeSpec := { name := "fnExactPermValid", fn := fun _ => fun
  | [d] => { results := [.lit (.bool true)], args := [d] }
  | _ => none }
def fnExactPermValidRow : OpenClaim := { program := "ytnpmaaccdpellaa", sum := "e66006e0c8b68047a240efc24eff4cb8f5bd8c0cc28b698e0043dea162f5c7a3", func := "loop.example/surfacemaps/laws.FnExactPermValid", spec := "fnExactPermValid", apart := false }
def FnExactPermValidSaid : Prop := fnExactPermValidRow.holds Try.pinned (OpenSpec.ofChange fnExactPermValidSpec)

/-- ITS FALSE NEIGHBOUR: 'it returns false'. Refute it at one input. -/
def fnExactPermValidWrong : ChangeSpec := { name := "fnExactPermValid", fn := fun _ => fun
  | [d] => { results := [.lit (.bool false)], args := [d] }
  | _ => none }
def FnExactPermValidWrongFalsely : Prop := fnExactPermValidRow.holds Try.pinned (OpenSpec.ofChange fnExactPermValidWrong)

/-- 'laws.FnExactPermBack': WHATEVER THE INPUT: true; the input reads as it did. -/
def fnExactPermBackSpec : ChangeSpec := { name := "fnExactPermBack", fn := fun _ => fun
  | [d] => { results := [.lit (.bool true)], args := [d] }
  | _ => none }
def fnExactPermBackRow : OpenClaim := { program := "ytnpmaaccdpellaa", sum := "e66006e0c8b68047a240efc24eff4cb8f5bd8c0cc28b698e0043dea162f5c7a3", func := "loop.example/surfacemaps/laws.FnExactPermBack", spec := "fnExactPermBack", apart := false }
def FnExactPermBackSaid : Prop := fnExactPermBackRow.holds Try.pinned (OpenSpec.ofChange fnExactPermBackSpec)

/-- ITS FALSE NEIGHBOUR: 'it returns false'. Refute it at one input. -/
def fnExactPermBackWrong : ChangeSpec := { name := "fnExactPermBack", fn := fun _ => fun
  | [d] => { results := [.lit (.bool false)], args := [d] }
  | _ => none }
def FnExactPermBackWrongFalsely : Prop := fnExactPermBackRow.holds Try.pinned (OpenSpec.ofChange fnExactPermBackWrong)

/-- 'laws.FnExactPermMul': WHATEVER THE INPUT: true; the input reads as it did. -/
def fnExactPermMulSpec : ChangeSpec := { name := "fnExactPermMul", fn := fun _ => fun
  | [d1, d2] => { results := [.lit (.bool true)], args := [d1, d2] }
  | _ => none }
def fnExactPermMulRow : OpenClaim := { program := "ytnpmaaccdpellaa", sum := "e66006e0c8b68047a240efc24eff4cb8f5bd8c0cc28b698e0043dea162f5c7a3", func := "loop.example/surfacemaps/laws.FnExactPermMul", spec := "fnExactPermMul", apart := false }
def FnExactPermMulSaid : Prop := fnExactPermMulRow.holds Try.pinned (OpenSpec.ofChange fnExactPermMulSpec)

/-- ITS FALSE NEIGHBOUR: 'it returns false'. Refute it at one input. -/
def fnExactPermMulWrong : ChangeSpec := { name := "fnExactPermMul", fn := fun _ => fun
  | [d1, d2] => { results := [.lit (.bool false)], args := [d1, d2] }
  | _ => none }
def FnExactPermMulWrongFalsely : Prop := fnExactPermMulRow.holds Try.pinned (OpenSpec.ofChange fnExactPermMulWrong)

/-- 'laws.FnExactPermSign': WHATEVER THE INPUT: true; the input reads as it did. -/
def fnExactPermSignSpec : ChangeSpec := { name := "fnExactPermSign", fn := fun _ => fun
  | [d] => { results := [.lit (.bool true)], args := [d] }
  | _ => none }
def fnExactPermSignRow : OpenClaim := { program := "ytnpmaaccdpellaa", sum := "e66006e0c8b68047a240efc24eff4cb8f5bd8c0cc28b698e0043dea162f5c7a3", func := "loop.example/surfacemaps/laws.FnExactPermSign", spec := "fnExactPermSign", apart := false }
def FnExactPermSignSaid : Prop := fnExactPermSignRow.holds Try.pinned (OpenSpec.ofChange fnExactPermSignSpec)

/-- ITS FALSE NEIGHBOUR: 'it returns false'. Refute it at one input. -/
def fnExactPermSignWrong : ChangeSpec := { name := "fnExactPermSign", fn := fun _ => fun
  | [d] => { results := [.lit (.bool false)], args := [d] }
  | _ => none }
def FnExactPermSignWrongFalsely : Prop := fnExactPermSignRow.holds Try.pinned (OpenSpec.ofChange fnExactPermSignWrong)

/-- 'laws.FnExactPermConj': WHATEVER THE INPUT: true; the input reads as it did. -/
def fnExactPermConjSpec : ChangeSpec := { name := "fnExactPermConj", fn := fun _ => fun
  | [d1, d2] => { results := [.lit (.bool true)], args := [d1, d2] }
  | _ => none }
def fnExactPermConjRow : OpenClaim := { program := "ytnpmaaccdpellaa", sum := "e66006e0c8b68047a240efc24eff4cb8f5bd8c0cc28b698e0043dea162f5c7a3", func := "loop.example/surfacemaps/laws.FnExactPermConj", spec := "fnExactPermConj", apart := false }
def FnExactPermConjSaid : Prop := fnExactPermConjRow.holds Try.pinned (OpenSpec.ofChange fnExactPermConjSpec)

/-- ITS FALSE NEIGHBOUR: 'it returns false'. Refute it at one input. -/
def fnExactPermConjWrong : ChangeSpec := { name := "fnExactPermConj", fn := fun _ => fun
  | [d1, d2] => { results := [.lit (.bool false)], args := [d1, d2] }
  | _ => none }
def FnExactPermConjWrongFalsely : Prop := fnExactPermConjRow.holds Try.pinned (OpenSpec.ofChange fnExactPermConjWrong)

/-- 'laws.FnExactPermOrder': WHATEVER THE INPUT: true; the input reads as it did. -/
def fnExactPermOrderSpec : ChangeSpec := { name := "fnExactPermOrder", fn := fun _ => fun
  | [d] => { results := [.lit (.bool true)], args := [d] }
  | _ => none }
def fnExactPermOrderRow : OpenClaim := { program := "ytnpmaaccdpellaa", sum := "e66006e0c8b68047a240efc24eff4cb8f5bd8c0cc28b698e0043dea162f5c7a3", func := "loop.example/surfacemaps/laws.FnExactPermOrder", spec := "fnExactPermOrder", apart := false }
def FnExactPermOrderSaid : Prop := fnExactPermOrderRow.holds Try.pinned (OpenSpec.ofChange fnExactPermOrderSpec)

/-- ITS FALSE NEIGHBOUR: 'it returns false'. Refute it at one input. -/
def fnExactPermOrderWrong : ChangeSpec := { name := "fnExactPermOrder", fn := fun _ => fun
  | [d] => { results := [.lit (.bool false)], args := [d] }
  | _ => none }
def FnExactPermOrderWrongFalsely : Prop := fnExactPermOrderRow.holds Try.pinned (OpenSpec.ofChange fnExactPermOrderWrong)

/-- 'laws.FnExactPermOrbits': WHATEVER THE INPUT: true; the input reads as it did. -/
def fnExactPermOrbitsSpec : ChangeSpec := { name := "fnExactPermOrbits", fn := fun _ => fun
  | [d1, d2] => { results := [.lit (.bool true)], args := [d1, d2] }
  | _ => none }
def fnExactPermOrbitsRow : OpenClaim := { program := "ytnpmaaccdpellaa", sum := "e66006e0c8b68047a240efc24eff4cb8f5bd8c0cc28b698e0043dea162f5c7a3", func := "loop.example/surfacemaps/laws.FnExactPermOrbits", spec := "fnExactPermOrbits", apart := false }
def FnExactPermOrbitsSaid : Prop := fnExactPermOrbitsRow.holds Try.pinned (OpenSpec.ofChange fnExactPermOrbitsSpec)

/-- ITS FALSE NEIGHBOUR: 'it returns false'. Refute it at one input. -/
def fnExactPermOrbitsWrong : ChangeSpec := { name := "fnExactPermOrbits", fn := fun _ => fun
  | [d1, d2] => { results := [.lit (.bool false)], args := [d1, d2] }
  | _ => none }
def FnExactPermOrbitsWrongFalsely : Prop := fnExactPermOrbitsRow.holds Try.pinned (OpenSpec.ofChange fnExactPermOrbitsWrong)

/-- 'laws.FnExactPermCycles': WHATEVER THE INPUT: true; the input reads as it did. -/
def fnExactPermCyclesSpec : ChangeSpec := { name := "fnExactPermCycles", fn := fun _ => fun
  | [d] => { results := [.lit (.bool true)], args := [d] }
  | _ => none }
def fnExactPermCyclesRow : OpenClaim := { program := "ytnpmaaccdpellaa", sum := "e66006e0c8b68047a240efc24eff4cb8f5bd8c0cc28b698e0043dea162f5c7a3", func := "loop.example/surfacemaps/laws.FnExactPermCycles", spec := "fnExactPermCycles", apart := false }
def FnExactPermCyclesSaid : Prop := fnExactPermCyclesRow.holds Try.pinned (OpenSpec.ofChange fnExactPermCyclesSpec)

/-- ITS FALSE NEIGHBOUR: 'it returns false'. Refute it at one input. -/
def fnExactPermCyclesWrong : ChangeSpec := { name := "fnExactPermCycles", fn := fun _ => fun
  | [d] => { results := [.lit (.bool false)], args := [d] }
  | _ => none }
def FnExactPermCyclesWrongFalsely : Prop := fnExactPermCyclesRow.holds Try.pinned (OpenSpec.ofChange fnExactPermCyclesWrong)

/-- 'laws.FnExactPermPower': WHATEVER THE INPUT: true; the input reads as it did. -/
def fnExactPermPowerSpec : ChangeSpec := { name := "fnExactPermPower", fn := fun _ => fun
  | [d1, d2] => { results := [.lit (.bool true)], args := [d1, d2] }
  | _ => none }
def fnExactPermPowerRow : OpenClaim := { program := "ytnpmaaccdpellaa", sum := "e66006e0c8b68047a240efc24eff4cb8f5bd8c0cc28b698e0043dea162f5c7a3", func := "loop.example/surfacemaps/laws.FnExactPermPower", spec := "fnExactPermPower", recurses := true, apart := false }
def FnExactPermPowerSaid : Prop := fnExactPermPowerRow.holds Try.pinned (OpenSpec.ofChange fnExactPermPowerSpec)

/-- ITS FALSE NEIGHBOUR: 'it returns false'. Refute it at one input. -/
def fnExactPermPowerWrong : ChangeSpec := { name := "fnExactPermPower", fn := fun _ => fun
  | [d1, d2] => { results := [.lit (.bool false)], args := [d1, d2] }
  | _ => none }
def FnExactPermPowerWrongFalsely : Prop := fnExactPermPowerRow.holds Try.pinned (OpenSpec.ofChange fnExactPermPowerWrong)

/- THE SECOND FORM. 'bulk': how many values and letters a reading holds, each counted each time it is reached (what is shared counts as often as it is met; a slice's spare places count too). A statement '..UptoSaid' is the law's where the arguments, and the package variables that the reading takes, are together of bulk at most 1048576: NARROWER than '..Said'. Prove '..Said' where nothing that the law and all that it calls make is longer than what came in: it says more and counts as full. Else prove '..UptoSaid'. A law counts once. -/
mutual
def uptoBulk {H : Type} : DataW H → Nat
  | .lit (.string bytes) => bytes.length + 1
  | .lit _ => 1
  | .nil => 1
  | .ptr d => uptoBulk d + 1
  | .slice elems spare => uptoBulkAll elems + uptoBulkAll spare + 1
  | .agg parts => uptoBulkAll parts + 1
  | .iface _ d => uptoBulk d + 1
  | .map entries => uptoBulkEntries entries + 1
  | .held _ => 1
def uptoBulkAll {H : Type} : List (DataW H) → Nat
  | [] => 0
  | d :: r => uptoBulk d + uptoBulkAll r
def uptoBulkEntries {H : Type} : List (Lit × DataW H) → Nat
  | [] => 0
  | x :: r => uptoBulkEntry x + uptoBulkEntries r
def uptoBulkEntry {H : Type} : Lit × DataW H → Nat
  | (.string bytes, d) => bytes.length + uptoBulk d + 1
  | (_, d) => uptoBulk d + 1
 end
def uptoSmall : (H : Type) → List (DataW H) → Bool := fun _ ds => decide (uptoBulkAll ds ≤ 1048576)
def OpenSpec.upto (s : _root_.Go.ChangeSpec) : _root_.Go.OpenSpec := { _root_.Go.OpenSpec.ofChange s with cond := some uptoSmall }

/-- 'laws.FnExactPermValid', WHERE WHAT IT READS IS OF BULK AT MOST 1048576: true; the input reads as it did. -/
def fnExactPermValidUptoRow : OpenClaim := { program := "ytnpmaaccdpellaa", sum := "e66006e0c8b68047a240efc24eff4cb8f5bd8c0cc28b698e0043dea162f5c7a3", func := "loop.example/surfacemaps/laws.FnExactPermValid", spec := "fnExactPermValid", apart := false, narrowed := true }
def FnExactPermValidUptoSaid : Prop := fnExactPermValidUptoRow.holds Try.pinned (OpenSpec.upto fnExactPermValidSpec)

/-- 'laws.FnExactPermBack', WHERE WHAT IT READS IS OF BULK AT MOST 1048576: true; the input reads as it did. -/
def fnExactPermBackUptoRow : OpenClaim := { program := "ytnpmaaccdpellaa", sum := "e66006e0c8b68047a240efc24eff4cb8f5bd8c0cc28b698e0043dea162f5c7a3", func := "loop.example/surfacemaps/laws.FnExactPermBack", spec := "fnExactPermBack", apart := false, narrowed := true }
def FnExactPermBackUptoSaid : Prop := fnExactPermBackUptoRow.holds Try.pinned (OpenSpec.upto fnExactPermBackSpec)

/-- 'laws.FnExactPermMul', WHERE WHAT IT READS IS OF BULK AT MOST 1048576: true; the input reads as it did. -/
def fnExactPermMulUptoRow : OpenClaim := { program := "ytnpmaaccdpellaa", sum := "e66006e0c8b68047a240efc24eff4cb8f5bd8c0cc28b698e0043dea162f5c7a3", func := "loop.example/surfacemaps/laws.FnExactPermMul", spec := "fnExactPermMul", apart := false, narrowed := true }
def FnExactPermMulUptoSaid : Prop := fnExactPermMulUptoRow.holds Try.pinned (OpenSpec.upto fnExactPermMulSpec)

/-- 'laws.FnExactPermSign', WHERE WHAT IT READS IS OF BULK AT MOST 1048576: true; the input reads as it did. -/
def fnExactPermSignUptoRow : OpenClaim := { program := "ytnpmaaccdpellaa", sum := "e66006e0c8b68047a240efc24eff4cb8f5bd8c0cc28b698e0043dea162f5c7a3", func := "loop.example/surfacemaps/laws.FnExactPermSign", spec := "fnExactPermSign", apart := false, narrowed := true }
def FnExactPermSignUptoSaid : Prop := fnExactPermSignUptoRow.holds Try.pinned (OpenSpec.upto fnExactPermSignSpec)

/-- 'laws.FnExactPermConj', WHERE WHAT IT READS IS OF BULK AT MOST 1048576: true; the input reads as it did. -/
def fnExactPermConjUptoRow : OpenClaim := { program := "ytnpmaaccdpellaa", sum := "e66006e0c8b68047a240efc24eff4cb8f5bd8c0cc28b698e0043dea162f5c7a3", func := "loop.example/surfacemaps/laws.FnExactPermConj", spec := "fnExactPermConj", apart := false, narrowed := true }
def FnExactPermConjUptoSaid : Prop := fnExactPermConjUptoRow.holds Try.pinned (OpenSpec.upto fnExactPermConjSpec)

/-- 'laws.FnExactPermOrder', WHERE WHAT IT READS IS OF BULK AT MOST 1048576: true; the input reads as it did. -/
def fnExactPermOrderUptoRow : OpenClaim := { program := "ytnpmaaccdpellaa", sum := "e66006e0c8b68047a240efc24eff4cb8f5bd8c0cc28b698e0043dea162f5c7a3", func := "loop.example/surfacemaps/laws.FnExactPermOrder", spec := "fnExactPermOrder", apart := false, narrowed := true }
def FnExactPermOrderUptoSaid : Prop := fnExactPermOrderUptoRow.holds Try.pinned (OpenSpec.upto fnExactPermOrderSpec)

/-- 'laws.FnExactPermOrbits', WHERE WHAT IT READS IS OF BULK AT MOST 1048576: true; the input reads as it did. -/
def fnExactPermOrbitsUptoRow : OpenClaim := { program := "ytnpmaaccdpellaa", sum := "e66006e0c8b68047a240efc24eff4cb8f5bd8c0cc28b698e0043dea162f5c7a3", func := "loop.example/surfacemaps/laws.FnExactPermOrbits", spec := "fnExactPermOrbits", apart := false, narrowed := true }
def FnExactPermOrbitsUptoSaid : Prop := fnExactPermOrbitsUptoRow.holds Try.pinned (OpenSpec.upto fnExactPermOrbitsSpec)

/-- 'laws.FnExactPermCycles', WHERE WHAT IT READS IS OF BULK AT MOST 1048576: true; the input reads as it did. -/
def fnExactPermCyclesUptoRow : OpenClaim := { program := "ytnpmaaccdpellaa", sum := "e66006e0c8b68047a240efc24eff4cb8f5bd8c0cc28b698e0043dea162f5c7a3", func := "loop.example/surfacemaps/laws.FnExactPermCycles", spec := "fnExactPermCycles", apart := false, narrowed := true }
def FnExactPermCyclesUptoSaid : Prop := fnExactPermCyclesUptoRow.holds Try.pinned (OpenSpec.upto fnExactPermCyclesSpec)

/-- 'laws.FnExactPermPower', WHERE WHAT IT READS IS OF BULK AT MOST 1048576: true; the input reads as it did. -/
def fnExactPermPowerUptoRow : OpenClaim := { program := "ytnpmaaccdpellaa", sum := "e66006e0c8b68047a240efc24eff4cb8f5bd8c0cc28b698e0043dea162f5c7a3", func := "loop.example/surfacemaps/laws.FnExactPermPower", spec := "fnExactPermPower", recurses := true, apart := false, narrowed := true }
def FnExactPermPowerUptoSaid : Prop := fnExactPermPowerUptoRow.holds Try.pinned (OpenSpec.upto fnExactPermPowerSpec)

end Rows
end Go.Proofs.Ytnpmaaccdpellaa
