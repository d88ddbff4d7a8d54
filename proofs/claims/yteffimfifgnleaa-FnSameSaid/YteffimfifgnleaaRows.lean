/-
  No cell of these rows narrows 'for every input' (looked for: loops, veiled, ifaces, maps, wideKeys, modest, calm, conditions, laid).
  DERIVED. THE GIVEN ROWS OF THIS SEAT. 6 by the template 'for every input the law returns true; each argument reads behind the call as it read before'; 0 by the template 'total and deterministic' (their statements: YteffimfifgnleaaTotals.lean).
  GIVEN WITH THE SEED: the statements are not yours to turn. If you find one false, say at which input.
  Laid BY PROGRAM, IN A SANDBOX (cutbox-rows.mjs): the forced cells as the released guide's own fill.sh prints them over the translation a99b1c7f1aa24345… (all of the seat's roots in one cut). By AI agents, Wed Nov 11 2026. No macro, syntax, notation, axiom, sorry.
-/
import Derived.Test.YteffimfifgnleaaChecked
import GoSem.Claim
import GoSem.ClaimJoined
import GoSem.ClaimMapViews
import Derived.JoinedTies
import Derived.KernelRfl
namespace Go.Proofs.Yteffimfifgnleaa
/- THE CELL 'sum', in the pinned program and in every row, IS THE sha256 OF THE DUMP (.gsa) THAT YteffimfifgnleaaProg.lean LOADS. Nothing in Lean hashes anything: it is a label: what it is worth is what the hold of that sum in a sandbox is worth. -/
noncomputable def Try.pinned : Pinned := { name := "yteffimfifgnleaa", sum := "a99b1c7f1aa24345f31e2a8891ee20e9d4f638e3f5e7632b4a07472a5f4e174d", checked := Try.checked }
namespace Rows
def none {H : Type} : Left H := { results := [], args := [] }

/-- 'laws.FnExactPermType': WHATEVER THE INPUT: true; the input reads as it did. -/
def fnExactPermTypeSpec : ChangeSpec := { name := "fnExactPermType", fn := fun _ => fun
  | [d] => { results := [.lit (.bool true)], args := [d] }
  | _ => none }
def fnExactPermTypeRow : OpenClaim := { program := "yteffimfifgnleaa", sum := "a99b1c7f1aa24345f31e2a8891ee20e9d4f638e3f5e7632b4a07472a5f4e174d", func := "loop.example/surfacemaps/laws.FnExactPermType", spec := "fnExactPermType", recurses := true, apart := false }
def FnExactPermTypeSaid : Prop := fnExactPermTypeRow.holds Try.pinned (OpenSpec.ofChange fnExactPermTypeSpec)

/-- ITS FALSE NEIGHBOUR: 'it returns false'. Refute it at one input. -/
def fnExactPermTypeWrong : ChangeSpec := { name := "fnExactPermType", fn := fun _ => fun
  | [d] => { results := [.lit (.bool false)], args := [d] }
  | _ => none }
def FnExactPermTypeWrongFalsely : Prop := fnExactPermTypeRow.holds Try.pinned (OpenSpec.ofChange fnExactPermTypeWrong)

/-- 'laws.FnBack': WHATEVER THE INPUT: true; the input reads as it did. -/
def fnBackSpec : ChangeSpec := { name := "fnBack", fn := fun _ => fun
  | [d] => { results := [.lit (.bool true)], args := [d] }
  | _ => none }
def fnBackRow : OpenClaim := { program := "yteffimfifgnleaa", sum := "a99b1c7f1aa24345f31e2a8891ee20e9d4f638e3f5e7632b4a07472a5f4e174d", func := "loop.example/surfacemaps/laws.FnBack", spec := "fnBack", recurses := true, apart := false }
def FnBackSaid : Prop := fnBackRow.holds Try.pinned (OpenSpec.ofChange fnBackSpec)

/-- ITS FALSE NEIGHBOUR: 'it returns false'. Refute it at one input. -/
def fnBackWrong : ChangeSpec := { name := "fnBack", fn := fun _ => fun
  | [d] => { results := [.lit (.bool false)], args := [d] }
  | _ => none }
def FnBackWrongFalsely : Prop := fnBackRow.holds Try.pinned (OpenSpec.ofChange fnBackWrong)

/-- 'laws.FnOrder': WHATEVER THE INPUT: true; the input reads as it did. -/
def fnOrderSpec : ChangeSpec := { name := "fnOrder", fn := fun _ => fun
  | [d] => { results := [.lit (.bool true)], args := [d] }
  | _ => none }
def fnOrderRow : OpenClaim := { program := "yteffimfifgnleaa", sum := "a99b1c7f1aa24345f31e2a8891ee20e9d4f638e3f5e7632b4a07472a5f4e174d", func := "loop.example/surfacemaps/laws.FnOrder", spec := "fnOrder", recurses := true, apart := false }
def FnOrderSaid : Prop := fnOrderRow.holds Try.pinned (OpenSpec.ofChange fnOrderSpec)

/-- ITS FALSE NEIGHBOUR: 'it returns false'. Refute it at one input. -/
def fnOrderWrong : ChangeSpec := { name := "fnOrder", fn := fun _ => fun
  | [d] => { results := [.lit (.bool false)], args := [d] }
  | _ => none }
def FnOrderWrongFalsely : Prop := fnOrderRow.holds Try.pinned (OpenSpec.ofChange fnOrderWrong)

/-- 'laws.FnExactMapDegrees': WHATEVER THE INPUT: true; the input reads as it did. -/
def fnExactMapDegreesSpec : ChangeSpec := { name := "fnExactMapDegrees", fn := fun _ => fun
  | [d] => { results := [.lit (.bool true)], args := [d] }
  | _ => none }
def fnExactMapDegreesRow : OpenClaim := { program := "yteffimfifgnleaa", sum := "a99b1c7f1aa24345f31e2a8891ee20e9d4f638e3f5e7632b4a07472a5f4e174d", func := "loop.example/surfacemaps/laws.FnExactMapDegrees", spec := "fnExactMapDegrees", recurses := true, apart := false }
def FnExactMapDegreesSaid : Prop := fnExactMapDegreesRow.holds Try.pinned (OpenSpec.ofChange fnExactMapDegreesSpec)

/-- ITS FALSE NEIGHBOUR: 'it returns false'. Refute it at one input. -/
def fnExactMapDegreesWrong : ChangeSpec := { name := "fnExactMapDegrees", fn := fun _ => fun
  | [d] => { results := [.lit (.bool false)], args := [d] }
  | _ => none }
def FnExactMapDegreesWrongFalsely : Prop := fnExactMapDegreesRow.holds Try.pinned (OpenSpec.ofChange fnExactMapDegreesWrong)

/-- 'laws.FnMirror': WHATEVER THE INPUT: true; the input reads as it did. -/
def fnMirrorSpec : ChangeSpec := { name := "fnMirror", fn := fun _ => fun
  | [d] => { results := [.lit (.bool true)], args := [d] }
  | _ => none }
def fnMirrorRow : OpenClaim := { program := "yteffimfifgnleaa", sum := "a99b1c7f1aa24345f31e2a8891ee20e9d4f638e3f5e7632b4a07472a5f4e174d", func := "loop.example/surfacemaps/laws.FnMirror", spec := "fnMirror", recurses := true, apart := false }
def FnMirrorSaid : Prop := fnMirrorRow.holds Try.pinned (OpenSpec.ofChange fnMirrorSpec)

/-- ITS FALSE NEIGHBOUR: 'it returns false'. Refute it at one input. -/
def fnMirrorWrong : ChangeSpec := { name := "fnMirror", fn := fun _ => fun
  | [d] => { results := [.lit (.bool false)], args := [d] }
  | _ => none }
def FnMirrorWrongFalsely : Prop := fnMirrorRow.holds Try.pinned (OpenSpec.ofChange fnMirrorWrong)

/-- 'laws.FnSame': WHATEVER THE INPUT: true; the input reads as it did. -/
def fnSameSpec : ChangeSpec := { name := "fnSame", fn := fun _ => fun
  | [d] => { results := [.lit (.bool true)], args := [d] }
  | _ => none }
def fnSameRow : OpenClaim := { program := "yteffimfifgnleaa", sum := "a99b1c7f1aa24345f31e2a8891ee20e9d4f638e3f5e7632b4a07472a5f4e174d", func := "loop.example/surfacemaps/laws.FnSame", spec := "fnSame", recurses := true, apart := false }
def FnSameSaid : Prop := fnSameRow.holds Try.pinned (OpenSpec.ofChange fnSameSpec)

/-- ITS FALSE NEIGHBOUR: 'it returns false'. Refute it at one input. -/
def fnSameWrong : ChangeSpec := { name := "fnSame", fn := fun _ => fun
  | [d] => { results := [.lit (.bool false)], args := [d] }
  | _ => none }
def FnSameWrongFalsely : Prop := fnSameRow.holds Try.pinned (OpenSpec.ofChange fnSameWrong)

/- THE SECOND FORM. 'bulk': how many values and letters a reading holds, each counted each time it is reached (what is shared counts as often as it is met; a slice's spare places count too). A statement '..UptoSaid' is the law's where the arguments, and the package variables that the reading takes, are together of bulk at most 1048576: NARROWER than '..Said'. Prove '..Said' where nothing that the law and all that it calls make is longer than what came in: it says more and counts as full. Else prove '..UptoSaid'. A law counts once. -/
mutual
def uptoBulk {H : Type} : DataW H → Nat
  | .lit (.string bytes) => bytes.length + 1
  | .lit _ => 1
  | .nil => 1
  | .ptr d => uptoBulk d + 1
  | .slice elems spare => uptoBulkAll elems + uptoBulkAll spare + 1
  | .agg parts => uptoBulkAll parts + 1
  | .iface _ d => uptoBulk d + 1
  | .map entries => uptoBulkEntries entries + 1
  | .held _ => 1
def uptoBulkAll {H : Type} : List (DataW H) → Nat
  | [] => 0
  | d :: r => uptoBulk d + uptoBulkAll r
def uptoBulkEntries {H : Type} : List (Lit × DataW H) → Nat
  | [] => 0
  | x :: r => uptoBulkEntry x + uptoBulkEntries r
def uptoBulkEntry {H : Type} : Lit × DataW H → Nat
  | (.string bytes, d) => bytes.length + uptoBulk d + 1
  | (_, d) => uptoBulk d + 1
 end
def uptoSmall : (H : Type) → List (DataW H) → Bool := fun _ ds => decide (uptoBulkAll ds ≤ 1048576)
def OpenSpec.upto (s : _root_.Go.ChangeSpec) : _root_.Go.OpenSpec := { _root_.Go.OpenSpec.ofChange s with cond := some uptoSmall }

/-- 'laws.FnExactPermType', WHERE WHAT IT READS IS OF BULK AT MOST 1048576: true; the input reads as it did. -/
def fnExactPermTypeUptoRow : OpenClaim := { program := "yteffimfifgnleaa", sum := "a99b1c7f1aa24345f31e2a8891ee20e9d4f638e3f5e7632b4a07472a5f4e174d", func := "loop.example/surfacemaps/laws.FnExactPermType", spec := "fnExactPermType", recurses := true, apart := false, narrowed := true }
def FnExactPermTypeUptoSaid : Prop := fnExactPermTypeUptoRow.holds Try.pinned (OpenSpec.upto fnExactPermTypeSpec)

/-- 'laws.FnBack', WHERE WHAT IT READS IS OF BULK AT MOST 1048576: true; the input reads as it did. -/
def fnBackUptoRow : OpenClaim := { program := "yteffimfifgnleaa", sum := "a99b1c7f1aa24345f31e2a8891ee20e9d4f638e3f5e7632b4a07472a5f4e174d", func := "loop.example/surfacemaps/laws.FnBack", spec := "fnBack", recurses := true, apart := false, narrowed := true }
def FnBackUptoSaid : Prop := fnBackUptoRow.holds Try.pinned (OpenSpec.upto fnBackSpec)

/-- 'laws.FnOrder', WHERE WHAT IT READS IS OF BULK AT MOST 1048576: true; the input reads as it did. -/
def fnOrderUptoRow : OpenClaim := { program := "yteffimfifgnleaa", sum := "a99b1c7f1aa24345f31e2a8891ee20e9d4f638e3f5e7632b4a07472a5f4e174d", func := "loop.example/surfacemaps/laws.FnOrder", spec := "fnOrder", recurses := true, apart := false, narrowed := true }
def FnOrderUptoSaid : Prop := fnOrderUptoRow.holds Try.pinned (OpenSpec.upto fnOrderSpec)

/-- 'laws.FnExactMapDegrees', WHERE WHAT IT READS IS OF BULK AT MOST 1048576: true; the input reads as it did. -/
def fnExactMapDegreesUptoRow : OpenClaim := { program := "yteffimfifgnleaa", sum := "a99b1c7f1aa24345f31e2a8891ee20e9d4f638e3f5e7632b4a07472a5f4e174d", func := "loop.example/surfacemaps/laws.FnExactMapDegrees", spec := "fnExactMapDegrees", recurses := true, apart := false, narrowed := true }
def FnExactMapDegreesUptoSaid : Prop := fnExactMapDegreesUptoRow.holds Try.pinned (OpenSpec.upto fnExactMapDegreesSpec)

/-- 'laws.FnMirror', WHERE WHAT IT READS IS OF BULK AT MOST 1048576: true; the input reads as it did. -/
def fnMirrorUptoRow : OpenClaim := { program := "yteffimfifgnleaa", sum := "a99b1c7f1aa24345f31e2a8891ee20e9d4f638e3f5e7632b4a07472a5f4e174d", func := "loop.example/surfacemaps/laws.FnMirror", spec := "fnMirror", recurses := true, apart := false, narrowed := true }
def FnMirrorUptoSaid : Prop := fnMirrorUptoRow.holds Try.pinned (OpenSpec.upto fnMirrorSpec)

/-- 'laws.FnSame', WHERE WHAT IT READS IS OF BULK AT MOST 1048576: true; the input reads as it did. -/
def fnSameUptoRow : OpenClaim := { program := "yteffimfifgnleaa", sum := "a99b1c7f1aa24345f31e2a8891ee20e9d4f638e3f5e7632b4a07472a5f4e174d", func := "loop.example/surfacemaps/laws.FnSame", spec := "fnSame", recurses := true, apart := false, narrowed := true }
def FnSameUptoSaid : Prop := fnSameUptoRow.holds Try.pinned (OpenSpec.upto fnSameSpec)

end Rows
end Go.Proofs.Yteffimfifgnleaa
