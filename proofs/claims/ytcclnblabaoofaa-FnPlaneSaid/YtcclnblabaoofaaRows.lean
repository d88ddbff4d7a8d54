/-
  No cell of these rows narrows 'for every input' (looked for: loops, veiled, ifaces, maps, wideKeys, modest, calm, conditions, laid).
  DERIVED. THE GIVEN ROWS OF THIS SEAT. 9 by the template 'for every input the law returns true; each argument reads behind the call as it read before'; 0 by the template 'total and deterministic' (their statements: YtcclnblabaoofaaTotals.lean).
  GIVEN WITH THE SEED: the statements are not yours to turn. If you find one false, say at which input.
  Laid BY PROGRAM, IN A SANDBOX (cutbox-rows.mjs): the forced cells as the released guide's own fill.sh prints them over the translation ad6ebc0fa4ff669e… (all of the seat's roots in one cut). By AI agents, Wed Nov 11 2026. No macro, syntax, notation, axiom, sorry.
-/
import Derived.Test.YtcclnblabaoofaaChecked
import GoSem.Claim
import GoSem.ClaimJoined
import GoSem.ClaimMapViews
import Derived.JoinedTies
import Derived.KernelRfl
namespace Go.Proofs.Ytcclnblabaoofaa
/- THE CELL 'sum', in the pinned program and in every row, IS THE sha256 OF THE DUMP (.gsa) THAT YtcclnblabaoofaaProg.lean LOADS. Nothing in Lean hashes anything: it is a label: what it is worth is what the hold of that sum in a sandbox is worth. -/
noncomputable def Try.pinned : Pinned := { name := "ytcclnblabaoofaa", sum := "ad6ebc0fa4ff669e2e3e495aebd8b8194391b4f27c68883de64de0d0d35bbb14", checked := Try.checked }
namespace Rows
def none {H : Type} : Left H := { results := [], args := [] }

/-- 'laws.FnExactConstants': WHATEVER THE INPUT: true; the input reads as it did. -/
def fnExactConstantsSpec : ChangeSpec := { name := "fnExactConstants", fn := fun _ => fun
  | [] => { results := [.lit (.bool true)], args := [] }
  | _ => none }
def fnExactConstantsRow : OpenClaim := { program := "ytcclnblabaoofaa", sum := "ad6ebc0fa4ff669e2e3e495aebd8b8194391b4f27c68883de64de0d0d35bbb14", func := "loop.example/surfacemaps/laws.FnExactConstants", spec := "fnExactConstants", apart := false }
def FnExactConstantsSaid : Prop := fnExactConstantsRow.holds Try.pinned (OpenSpec.ofChange fnExactConstantsSpec)

/-- ITS FALSE NEIGHBOUR: 'it returns false'. Refute it at one input. -/
def fnExactConstantsWrong : ChangeSpec := { name := "fnExactConstants", fn := fun _ => fun
  | [] => { results := [.lit (.bool false)], args := [] }
  | _ => none }
def FnExactConstantsWrongFalsely : Prop := fnExactConstantsRow.holds Try.pinned (OpenSpec.ofChange fnExactConstantsWrong)

/-- 'laws.FnExactRootedTrees': WHATEVER THE INPUT: true; the input reads as it did. -/
def fnExactRootedTreesSpec : ChangeSpec := { name := "fnExactRootedTrees", fn := fun _ => fun
  | [d] => { results := [.lit (.bool true)], args := [d] }
  | _ => none }
def fnExactRootedTreesRow : OpenClaim := { program := "ytcclnblabaoofaa", sum := "ad6ebc0fa4ff669e2e3e495aebd8b8194391b4f27c68883de64de0d0d35bbb14", func := "loop.example/surfacemaps/laws.FnExactRootedTrees", spec := "fnExactRootedTrees", apart := false }
def FnExactRootedTreesSaid : Prop := fnExactRootedTreesRow.holds Try.pinned (OpenSpec.ofChange fnExactRootedTreesSpec)

/-- ITS FALSE NEIGHBOUR: 'it returns false'. Refute it at one input. -/
def fnExactRootedTreesWrong : ChangeSpec := { name := "fnExactRootedTrees", fn := fun _ => fun
  | [d] => { results := [.lit (.bool false)], args := [d] }
  | _ => none }
def FnExactRootedTreesWrongFalsely : Prop := fnExactRootedTreesRow.holds Try.pinned (OpenSpec.ofChange fnExactRootedTreesWrong)

/-- 'laws.FnExactRootedPlane': WHATEVER THE INPUT: true; the input reads as it did. -/
def fnExactRootedPlaneSpec : ChangeSpec := { name := "fnExactRootedPlane", fn := fun _ => fun
  | [d] => { results := [.lit (.bool true)], args := [d] }
  | _ => none }
def fnExactRootedPlaneRow : OpenClaim := { program := "ytcclnblabaoofaa", sum := "ad6ebc0fa4ff669e2e3e495aebd8b8194391b4f27c68883de64de0d0d35bbb14", func := "loop.example/surfacemaps/laws.FnExactRootedPlane", spec := "fnExactRootedPlane", apart := false }
def FnExactRootedPlaneSaid : Prop := fnExactRootedPlaneRow.holds Try.pinned (OpenSpec.ofChange fnExactRootedPlaneSpec)

/-- ITS FALSE NEIGHBOUR: 'it returns false'. Refute it at one input. -/
def fnExactRootedPlaneWrong : ChangeSpec := { name := "fnExactRootedPlane", fn := fun _ => fun
  | [d] => { results := [.lit (.bool false)], args := [d] }
  | _ => none }
def FnExactRootedPlaneWrongFalsely : Prop := fnExactRootedPlaneRow.holds Try.pinned (OpenSpec.ofChange fnExactRootedPlaneWrong)

/-- 'laws.FnExactRootedRun': WHATEVER THE INPUT: true; the input reads as it did. -/
def fnExactRootedRunSpec : ChangeSpec := { name := "fnExactRootedRun", fn := fun _ => fun
  | [d1, d2] => { results := [.lit (.bool true)], args := [d1, d2] }
  | _ => none }
def fnExactRootedRunRow : OpenClaim := { program := "ytcclnblabaoofaa", sum := "ad6ebc0fa4ff669e2e3e495aebd8b8194391b4f27c68883de64de0d0d35bbb14", func := "loop.example/surfacemaps/laws.FnExactRootedRun", spec := "fnExactRootedRun", apart := false }
def FnExactRootedRunSaid : Prop := fnExactRootedRunRow.holds Try.pinned (OpenSpec.ofChange fnExactRootedRunSpec)

/-- ITS FALSE NEIGHBOUR: 'it returns false'. Refute it at one input. -/
def fnExactRootedRunWrong : ChangeSpec := { name := "fnExactRootedRun", fn := fun _ => fun
  | [d1, d2] => { results := [.lit (.bool false)], args := [d1, d2] }
  | _ => none }
def FnExactRootedRunWrongFalsely : Prop := fnExactRootedRunRow.holds Try.pinned (OpenSpec.ofChange fnExactRootedRunWrong)

/-- 'laws.FnExactRootedFace': WHATEVER THE INPUT: true; the input reads as it did. -/
def fnExactRootedFaceSpec : ChangeSpec := { name := "fnExactRootedFace", fn := fun _ => fun
  | [d1, d2] => { results := [.lit (.bool true)], args := [d1, d2] }
  | _ => none }
def fnExactRootedFaceRow : OpenClaim := { program := "ytcclnblabaoofaa", sum := "ad6ebc0fa4ff669e2e3e495aebd8b8194391b4f27c68883de64de0d0d35bbb14", func := "loop.example/surfacemaps/laws.FnExactRootedFace", spec := "fnExactRootedFace", apart := false }
def FnExactRootedFaceSaid : Prop := fnExactRootedFaceRow.holds Try.pinned (OpenSpec.ofChange fnExactRootedFaceSpec)

/-- ITS FALSE NEIGHBOUR: 'it returns false'. Refute it at one input. -/
def fnExactRootedFaceWrong : ChangeSpec := { name := "fnExactRootedFace", fn := fun _ => fun
  | [d1, d2] => { results := [.lit (.bool false)], args := [d1, d2] }
  | _ => none }
def FnExactRootedFaceWrongFalsely : Prop := fnExactRootedFaceRow.holds Try.pinned (OpenSpec.ofChange fnExactRootedFaceWrong)

/-- 'laws.FnTrees': WHATEVER THE INPUT: true; the input reads as it did. -/
def fnTreesSpec : ChangeSpec := { name := "fnTrees", fn := fun _ => fun
  | [d] => { results := [.lit (.bool true)], args := [d] }
  | _ => none }
def fnTreesRow : OpenClaim := { program := "ytcclnblabaoofaa", sum := "ad6ebc0fa4ff669e2e3e495aebd8b8194391b4f27c68883de64de0d0d35bbb14", func := "loop.example/surfacemaps/laws.FnTrees", spec := "fnTrees", apart := false }
def FnTreesSaid : Prop := fnTreesRow.holds Try.pinned (OpenSpec.ofChange fnTreesSpec)

/-- ITS FALSE NEIGHBOUR: 'it returns false'. Refute it at one input. -/
def fnTreesWrong : ChangeSpec := { name := "fnTrees", fn := fun _ => fun
  | [d] => { results := [.lit (.bool false)], args := [d] }
  | _ => none }
def FnTreesWrongFalsely : Prop := fnTreesRow.holds Try.pinned (OpenSpec.ofChange fnTreesWrong)

/-- 'laws.FnPlane': WHATEVER THE INPUT: true; the input reads as it did. -/
def fnPlaneSpec : ChangeSpec := { name := "fnPlane", fn := fun _ => fun
  | [d] => { results := [.lit (.bool true)], args := [d] }
  | _ => none }
def fnPlaneRow : OpenClaim := { program := "ytcclnblabaoofaa", sum := "ad6ebc0fa4ff669e2e3e495aebd8b8194391b4f27c68883de64de0d0d35bbb14", func := "loop.example/surfacemaps/laws.FnPlane", spec := "fnPlane", apart := false }
def FnPlaneSaid : Prop := fnPlaneRow.holds Try.pinned (OpenSpec.ofChange fnPlaneSpec)

/-- ITS FALSE NEIGHBOUR: 'it returns false'. Refute it at one input. -/
def fnPlaneWrong : ChangeSpec := { name := "fnPlane", fn := fun _ => fun
  | [d] => { results := [.lit (.bool false)], args := [d] }
  | _ => none }
def FnPlaneWrongFalsely : Prop := fnPlaneRow.holds Try.pinned (OpenSpec.ofChange fnPlaneWrong)

/-- 'laws.FnRun': WHATEVER THE INPUT: true; the input reads as it did. -/
def fnRunSpec : ChangeSpec := { name := "fnRun", fn := fun _ => fun
  | [d] => { results := [.lit (.bool true)], args := [d] }
  | _ => none }
def fnRunRow : OpenClaim := { program := "ytcclnblabaoofaa", sum := "ad6ebc0fa4ff669e2e3e495aebd8b8194391b4f27c68883de64de0d0d35bbb14", func := "loop.example/surfacemaps/laws.FnRun", spec := "fnRun", apart := false }
def FnRunSaid : Prop := fnRunRow.holds Try.pinned (OpenSpec.ofChange fnRunSpec)

/-- ITS FALSE NEIGHBOUR: 'it returns false'. Refute it at one input. -/
def fnRunWrong : ChangeSpec := { name := "fnRun", fn := fun _ => fun
  | [d] => { results := [.lit (.bool false)], args := [d] }
  | _ => none }
def FnRunWrongFalsely : Prop := fnRunRow.holds Try.pinned (OpenSpec.ofChange fnRunWrong)

/-- 'laws.FnFace': WHATEVER THE INPUT: true; the input reads as it did. -/
def fnFaceSpec : ChangeSpec := { name := "fnFace", fn := fun _ => fun
  | [d] => { results := [.lit (.bool true)], args := [d] }
  | _ => none }
def fnFaceRow : OpenClaim := { program := "ytcclnblabaoofaa", sum := "ad6ebc0fa4ff669e2e3e495aebd8b8194391b4f27c68883de64de0d0d35bbb14", func := "loop.example/surfacemaps/laws.FnFace", spec := "fnFace", apart := false }
def FnFaceSaid : Prop := fnFaceRow.holds Try.pinned (OpenSpec.ofChange fnFaceSpec)

/-- ITS FALSE NEIGHBOUR: 'it returns false'. Refute it at one input. -/
def fnFaceWrong : ChangeSpec := { name := "fnFace", fn := fun _ => fun
  | [d] => { results := [.lit (.bool false)], args := [d] }
  | _ => none }
def FnFaceWrongFalsely : Prop := fnFaceRow.holds Try.pinned (OpenSpec.ofChange fnFaceWrong)

/- THE SECOND FORM. 'bulk': how many values and letters a reading holds, each counted each time it is reached (what is shared counts as often as it is met; a slice's spare places count too). A statement '..UptoSaid' is the law's where the arguments, and the package variables that the reading takes, are together of bulk at most 1048576: NARROWER than '..Said'. Prove '..Said' where nothing that the law and all that it calls make is longer than what came in: it says more and counts as full. Else prove '..UptoSaid'. A law counts once. -/
mutual
def uptoBulk {H : Type} : DataW H → Nat
  | .lit (.string bytes) => bytes.length + 1
  | .lit _ => 1
  | .nil => 1
  | .ptr d => uptoBulk d + 1
  | .slice elems spare => uptoBulkAll elems + uptoBulkAll spare + 1
  | .agg parts => uptoBulkAll parts + 1
  | .iface _ d => uptoBulk d + 1
  | .map entries => uptoBulkEntries entries + 1
  | .held _ => 1
def uptoBulkAll {H : Type} : List (DataW H) → Nat
  | [] => 0
  | d :: r => uptoBulk d + uptoBulkAll r
def uptoBulkEntries {H : Type} : List (Lit × DataW H) → Nat
  | [] => 0
  | x :: r => uptoBulkEntry x + uptoBulkEntries r
def uptoBulkEntry {H : Type} : Lit × DataW H → Nat
  | (.string bytes, d) => bytes.length + uptoBulk d + 1
  | (_, d) => uptoBulk d + 1
 end
def uptoSmall : (H : Type) → List (DataW H) → Bool := fun _ ds => decide (uptoBulkAll ds ≤ 1048576)
def OpenSpec.upto (s : _root_.Go.ChangeSpec) : _root_.Go.OpenSpec := { _root_.Go.OpenSpec.ofChange s with cond := some uptoSmall }

/-- 'laws.FnExactConstants', WHERE WHAT IT READS IS OF BULK AT MOST 1048576: true; the input reads as it did. -/
def fnExactConstantsUptoRow : OpenClaim := { program := "ytcclnblabaoofaa", sum := "ad6ebc0fa4ff669e2e3e495aebd8b8194391b4f27c68883de64de0d0d35bbb14", func := "loop.example/surfacemaps/laws.FnExactConstants", spec := "fnExactConstants", apart := false, narrowed := true }
def FnExactConstantsUptoSaid : Prop := fnExactConstantsUptoRow.holds Try.pinned (OpenSpec.upto fnExactConstantsSpec)

/-- 'laws.FnExactRootedTrees', WHERE WHAT IT READS IS OF BULK AT MOST 1048576: true; the input reads as it did. -/
def fnExactRootedTreesUptoRow : OpenClaim := { program := "ytcclnblabaoofaa", sum := "ad6ebc0fa4ff669e2e3e495aebd8b8194391b4f27c68883de64de0d0d35bbb14", func := "loop.example/surfacemaps/laws.FnExactRootedTrees", spec := "fnExactRootedTrees", apart := false, narrowed := true }
def FnExactRootedTreesUptoSaid : Prop := fnExactRootedTreesUptoRow.holds Try.pinned (OpenSpec.upto fnExactRootedTreesSpec)

/-- 'laws.FnExactRootedPlane', WHERE WHAT IT READS IS OF BULK AT MOST 1048576: true; the input reads as it did. -/
def fnExactRootedPlaneUptoRow : OpenClaim := { program := "ytcclnblabaoofaa", sum := "ad6ebc0fa4ff669e2e3e495aebd8b8194391b4f27c68883de64de0d0d35bbb14", func := "loop.example/surfacemaps/laws.FnExactRootedPlane", spec := "fnExactRootedPlane", apart := false, narrowed := true }
def FnExactRootedPlaneUptoSaid : Prop := fnExactRootedPlaneUptoRow.holds Try.pinned (OpenSpec.upto fnExactRootedPlaneSpec)

/-- 'laws.FnExactRootedRun', WHERE WHAT IT READS IS OF BULK AT MOST 1048576: true; the input reads as it did. -/
def fnExactRootedRunUptoRow : OpenClaim := { program := "ytcclnblabaoofaa", sum := "ad6ebc0fa4ff669e2e3e495aebd8b8194391b4f27c68883de64de0d0d35bbb14", func := "loop.example/surfacemaps/laws.FnExactRootedRun", spec := "fnExactRootedRun", apart := false, narrowed := true }
def FnExactRootedRunUptoSaid : Prop := fnExactRootedRunUptoRow.holds Try.pinned (OpenSpec.upto fnExactRootedRunSpec)

/-- 'laws.FnExactRootedFace', WHERE WHAT IT READS IS OF BULK AT MOST 1048576: true; the input reads as it did. -/
def fnExactRootedFaceUptoRow : OpenClaim := { program := "ytcclnblabaoofaa", sum := "ad6ebc0fa4ff669e2e3e495aebd8b8194391b4f27c68883de64de0d0d35bbb14", func := "loop.example/surfacemaps/laws.FnExactRootedFace", spec := "fnExactRootedFace", apart := false, narrowed := true }
def FnExactRootedFaceUptoSaid : Prop := fnExactRootedFaceUptoRow.holds Try.pinned (OpenSpec.upto fnExactRootedFaceSpec)

/-- 'laws.FnTrees', WHERE WHAT IT READS IS OF BULK AT MOST 1048576: true; the input reads as it did. -/
def fnTreesUptoRow : OpenClaim := { program := "ytcclnblabaoofaa", sum := "ad6ebc0fa4ff669e2e3e495aebd8b8194391b4f27c68883de64de0d0d35bbb14", func := "loop.example/surfacemaps/laws.FnTrees", spec := "fnTrees", apart := false, narrowed := true }
def FnTreesUptoSaid : Prop := fnTreesUptoRow.holds Try.pinned (OpenSpec.upto fnTreesSpec)

/-- 'laws.FnPlane', WHERE WHAT IT READS IS OF BULK AT MOST 1048576: true; the input reads as it did. -/
def fnPlaneUptoRow : OpenClaim := { program := "ytcclnblabaoofaa", sum := "ad6ebc0fa4ff669e2e3e495aebd8b8194391b4f27c68883de64de0d0d35bbb14", func := "loop.example/surfacemaps/laws.FnPlane", spec := "fnPlane", apart := false, narrowed := true }
def FnPlaneUptoSaid : Prop := fnPlaneUptoRow.holds Try.pinned (OpenSpec.upto fnPlaneSpec)

/-- 'laws.FnRun', WHERE WHAT IT READS IS OF BULK AT MOST 1048576: true; the input reads as it did. -/
def fnRunUptoRow : OpenClaim := { program := "ytcclnblabaoofaa", sum := "ad6ebc0fa4ff669e2e3e495aebd8b8194391b4f27c68883de64de0d0d35bbb14", func := "loop.example/surfacemaps/laws.FnRun", spec := "fnRun", apart := false, narrowed := true }
def FnRunUptoSaid : Prop := fnRunUptoRow.holds Try.pinned (OpenSpec.upto fnRunSpec)

/-- 'laws.FnFace', WHERE WHAT IT READS IS OF BULK AT MOST 1048576: true; the input reads as it did. -/
def fnFaceUptoRow : OpenClaim := { program := "ytcclnblabaoofaa", sum := "ad6ebc0fa4ff669e2e3e495aebd8b8194391b4f27c68883de64de0d0d35bbb14", func := "loop.example/surfacemaps/laws.FnFace", spec := "fnFace", apart := false, narrowed := true }
def FnFaceUptoSaid : Prop := fnFaceUptoRow.holds Try.pinned (OpenSpec.upto fnFaceSpec)

end Rows
end Go.Proofs.Ytcclnblabaoofaa
