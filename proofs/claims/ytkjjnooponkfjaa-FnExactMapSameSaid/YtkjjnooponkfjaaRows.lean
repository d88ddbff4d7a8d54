/-
  No cell of these rows narrows 'for every input' (looked for: loops, veiled, ifaces, maps, wideKeys, modest, calm, conditions, laid).
  DERIVED. THE GIVEN ROWS OF THIS SEAT. 4 by the template 'for every input the law returns true; each argument reads behind the call as it read before'; 0 by the template 'total and deterministic' (their statements: YtkjjnooponkfjaaTotals.lean).
  GIVEN WITH THE SEED: the statements are not yours to turn. If you find one false, say at which input.
  Laid BY PROGRAM, IN A SANDBOX (cutbox-rows.mjs): the forced cells as the released guide's own fill.sh prints them over the translation 1d6a849c5940a28a… (all of the seat's roots in one cut). By AI agents, Wed Nov 11 2026. No macro, syntax, notation, axiom, sorry.
-/
import Derived.Test.YtkjjnooponkfjaaChecked
import GoSem.Claim
import GoSem.ClaimJoined
import GoSem.ClaimMapViews
import Derived.JoinedTies
import Derived.KernelRfl
namespace Go.Proofs.Ytkjjnooponkfjaa
/- THE CELL 'sum', in the pinned program and in every row, IS THE sha256 OF THE DUMP (.gsa) THAT YtkjjnooponkfjaaProg.lean LOADS. Nothing in Lean hashes anything: it is a label: what it is worth is what the hold of that sum in a sandbox is worth. -/
noncomputable def Try.pinned : Pinned := { name := "ytkjjnooponkfjaa", sum := "1d6a849c5940a28aef7672fe0909da8e85bd48f2e0e93b699b177a7c9c591785", checked := Try.checked }
namespace Rows
def none {H : Type} : Left H := { results := [], args := [] }

/-- 'laws.FnExactMapForm': WHATEVER THE INPUT: true; the input reads as it did. -/
def fnExactMapFormSpec : ChangeSpec := { name := "fnExactMapForm", fn := fun _ => fun
  | [d1, d2] => { results := [.lit (.bool true)], args := [d1, d2] }
  | _ => none }
def fnExactMapFormRow : OpenClaim := { program := "ytkjjnooponkfjaa", sum := "1d6a849c5940a28aef7672fe0909da8e85bd48f2e0e93b699b177a7c9c591785", func := "loop.example/surfacemaps/laws.FnExactMapForm", spec := "fnExactMapForm", apart := false }
def FnExactMapFormSaid : Prop := fnExactMapFormRow.holds Try.pinned (OpenSpec.ofChange fnExactMapFormSpec)

/-- ITS FALSE NEIGHBOUR: 'it returns false'. Refute it at one input. -/
def fnExactMapFormWrong : ChangeSpec := { name := "fnExactMapForm", fn := fun _ => fun
  | [d1, d2] => { results := [.lit (.bool false)], args := [d1, d2] }
  | _ => none }
def FnExactMapFormWrongFalsely : Prop := fnExactMapFormRow.holds Try.pinned (OpenSpec.ofChange fnExactMapFormWrong)

/-- 'laws.FnExactMapTurns': WHATEVER THE INPUT: true; the input reads as it did. -/
def fnExactMapTurnsSpec : ChangeSpec := { name := "fnExactMapTurns", fn := fun _ => fun
  | [d] => { results := [.lit (.bool true)], args := [d] }
  | _ => none }
def fnExactMapTurnsRow : OpenClaim := { program := "ytkjjnooponkfjaa", sum := "1d6a849c5940a28aef7672fe0909da8e85bd48f2e0e93b699b177a7c9c591785", func := "loop.example/surfacemaps/laws.FnExactMapTurns", spec := "fnExactMapTurns", apart := false }
def FnExactMapTurnsSaid : Prop := fnExactMapTurnsRow.holds Try.pinned (OpenSpec.ofChange fnExactMapTurnsSpec)

/-- ITS FALSE NEIGHBOUR: 'it returns false'. Refute it at one input. -/
def fnExactMapTurnsWrong : ChangeSpec := { name := "fnExactMapTurns", fn := fun _ => fun
  | [d] => { results := [.lit (.bool false)], args := [d] }
  | _ => none }
def FnExactMapTurnsWrongFalsely : Prop := fnExactMapTurnsRow.holds Try.pinned (OpenSpec.ofChange fnExactMapTurnsWrong)

/-- 'laws.FnExactMapSame': WHATEVER THE INPUT: true; the input reads as it did. -/
def fnExactMapSameSpec : ChangeSpec := { name := "fnExactMapSame", fn := fun _ => fun
  | [d1, d2] => { results := [.lit (.bool true)], args := [d1, d2] }
  | _ => none }
def fnExactMapSameRow : OpenClaim := { program := "ytkjjnooponkfjaa", sum := "1d6a849c5940a28aef7672fe0909da8e85bd48f2e0e93b699b177a7c9c591785", func := "loop.example/surfacemaps/laws.FnExactMapSame", spec := "fnExactMapSame", apart := false }
def FnExactMapSameSaid : Prop := fnExactMapSameRow.holds Try.pinned (OpenSpec.ofChange fnExactMapSameSpec)

/-- ITS FALSE NEIGHBOUR: 'it returns false'. Refute it at one input. -/
def fnExactMapSameWrong : ChangeSpec := { name := "fnExactMapSame", fn := fun _ => fun
  | [d1, d2] => { results := [.lit (.bool false)], args := [d1, d2] }
  | _ => none }
def FnExactMapSameWrongFalsely : Prop := fnExactMapSameRow.holds Try.pinned (OpenSpec.ofChange fnExactMapSameWrong)

/-- 'laws.FnExactMapLeast': WHATEVER THE INPUT: true; the input reads as it did. -/
def fnExactMapLeastSpec : ChangeSpec := { name := "fnExactMapLeast", fn := fun _ => fun
  | [d] => { results := [.lit (.bool true)], args := [d] }
  | _ => none }
def fnExactMapLeastRow : OpenClaim := { program := "ytkjjnooponkfjaa", sum := "1d6a849c5940a28aef7672fe0909da8e85bd48f2e0e93b699b177a7c9c591785", func := "loop.example/surfacemaps/laws.FnExactMapLeast", spec := "fnExactMapLeast", apart := false }
def FnExactMapLeastSaid : Prop := fnExactMapLeastRow.holds Try.pinned (OpenSpec.ofChange fnExactMapLeastSpec)

/-- ITS FALSE NEIGHBOUR: 'it returns false'. Refute it at one input. -/
def fnExactMapLeastWrong : ChangeSpec := { name := "fnExactMapLeast", fn := fun _ => fun
  | [d] => { results := [.lit (.bool false)], args := [d] }
  | _ => none }
def FnExactMapLeastWrongFalsely : Prop := fnExactMapLeastRow.holds Try.pinned (OpenSpec.ofChange fnExactMapLeastWrong)

/- THE SECOND FORM. 'bulk': how many values and letters a reading holds, each counted each time it is reached (what is shared counts as often as it is met; a slice's spare places count too). A statement '..UptoSaid' is the law's where the arguments, and the package variables that the reading takes, are together of bulk at most 1048576: NARROWER than '..Said'. Prove '..Said' where nothing that the law and all that it calls make is longer than what came in: it says more and counts as full. Else prove '..UptoSaid'. A law counts once. -/
mutual
def uptoBulk {H : Type} : DataW H → Nat
  | .lit (.string bytes) => bytes.length + 1
  | .lit _ => 1
  | .nil => 1
  | .ptr d => uptoBulk d + 1
  | .slice elems spare => uptoBulkAll elems + uptoBulkAll spare + 1
  | .agg parts => uptoBulkAll parts + 1
  | .iface _ d => uptoBulk d + 1
  | .map entries => uptoBulkEntries entries + 1
  | .held _ => 1
def uptoBulkAll {H : Type} : List (DataW H) → Nat
  | [] => 0
  | d :: r => uptoBulk d + uptoBulkAll r
def uptoBulkEntries {H : Type} : List (Lit × DataW H) → Nat
  | [] => 0
  | x :: r => uptoBulkEntry x + uptoBulkEntries r
def uptoBulkEntry {H : Type} : Lit × DataW H → Nat
  | (.string bytes, d) => bytes.length + uptoBulk d + 1
  | (_, d) => uptoBulk d + 1
 end
def uptoSmall : (H : Type) → List (DataW H) → Bool := fun _ ds => decide (uptoBulkAll ds ≤ 1048576)
def OpenSpec.upto (s : _root_.Go.ChangeSpec) : _root_.Go.OpenSpec := { _root_.Go.OpenSpec.ofChange s with cond := some uptoSmall }

/-- 'laws.FnExactMapForm', WHERE WHAT IT READS IS OF BULK AT MOST 1048576: true; the input reads as it did. -/
def fnExactMapFormUptoRow : OpenClaim := { program := "ytkjjnooponkfjaa", sum := "1d6a849c5940a28aef7672fe0909da8e85bd48f2e0e93b699b177a7c9c591785", func := "loop.example/surfacemaps/laws.FnExactMapForm", spec := "fnExactMapForm", apart := false, narrowed := true }
def FnExactMapFormUptoSaid : Prop := fnExactMapFormUptoRow.holds Try.pinned (OpenSpec.upto fnExactMapFormSpec)

/-- 'laws.FnExactMapTurns', WHERE WHAT IT READS IS OF BULK AT MOST 1048576: true; the input reads as it did. -/
def fnExactMapTurnsUptoRow : OpenClaim := { program := "ytkjjnooponkfjaa", sum := "1d6a849c5940a28aef7672fe0909da8e85bd48f2e0e93b699b177a7c9c591785", func := "loop.example/surfacemaps/laws.FnExactMapTurns", spec := "fnExactMapTurns", apart := false, narrowed := true }
def FnExactMapTurnsUptoSaid : Prop := fnExactMapTurnsUptoRow.holds Try.pinned (OpenSpec.upto fnExactMapTurnsSpec)

/-- 'laws.FnExactMapSame', WHERE WHAT IT READS IS OF BULK AT MOST 1048576: true; the input reads as it did. -/
def fnExactMapSameUptoRow : OpenClaim := { program := "ytkjjnooponkfjaa", sum := "1d6a849c5940a28aef7672fe0909da8e85bd48f2e0e93b699b177a7c9c591785", func := "loop.example/surfacemaps/laws.FnExactMapSame", spec := "fnExactMapSame", apart := false, narrowed := true }
def FnExactMapSameUptoSaid : Prop := fnExactMapSameUptoRow.holds Try.pinned (OpenSpec.upto fnExactMapSameSpec)

/-- 'laws.FnExactMapLeast', WHERE WHAT IT READS IS OF BULK AT MOST 1048576: true; the input reads as it did. -/
def fnExactMapLeastUptoRow : OpenClaim := { program := "ytkjjnooponkfjaa", sum := "1d6a849c5940a28aef7672fe0909da8e85bd48f2e0e93b699b177a7c9c591785", func := "loop.example/surfacemaps/laws.FnExactMapLeast", spec := "fnExactMapLeast", apart := false, narrowed := true }
def FnExactMapLeastUptoSaid : Prop := fnExactMapLeastUptoRow.holds Try.pinned (OpenSpec.upto fnExactMapLeastSpec)

end Rows
end Go.Proofs.Ytkjjnooponkfjaa
