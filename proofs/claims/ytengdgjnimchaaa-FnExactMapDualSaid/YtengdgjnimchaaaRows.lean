/-
  No cell of these rows narrows 'for every input' (looked for: loops, veiled, ifaces, maps, wideKeys, modest, calm, conditions, laid).
  DERIVED. THE GIVEN ROWS OF THIS SEAT. 8 by the template 'for every input the law returns true; each argument reads behind the call as it read before'; 0 by the template 'total and deterministic' (their statements: YtengdgjnimchaaaTotals.lean).
  GIVEN WITH THE SEED: the statements are not yours to turn. If you find one false, say at which input.
  Laid BY PROGRAM, IN A SANDBOX (cutbox-rows.mjs): the forced cells as the released guide's own fill.sh prints them over the translation 3d883192925b52ef… (all of the seat's roots in one cut). By AI agents, Wed Nov 11 2026. No macro, syntax, notation, axiom, sorry.
-/
import Derived.Test.YtengdgjnimchaaaChecked
import GoSem.Claim
import GoSem.ClaimJoined
import GoSem.ClaimMapViews
import Derived.JoinedTies
import Derived.KernelRfl
namespace Go.Proofs.Ytengdgjnimchaaa
/- THE CELL 'sum', in the pinned program and in every row, IS THE sha256 OF THE DUMP (.gsa) THAT YtengdgjnimchaaaProg.lean LOADS. Nothing in Lean hashes anything: it is a label: what it is worth is what the hold of that sum in a sandbox is worth. -/
noncomputable def Try.pinned : Pinned := { name := "ytengdgjnimchaaa", sum := "3d883192925b52ef375cd007ff284290b8cfb40458044edb9ba5f69c8c3bfb95", checked := Try.checked }
namespace Rows
def none {H : Type} : Left H := { results := [], args := [] }

/-- 'laws.FnExactMapValid': WHATEVER THE INPUT: true; the input reads as it did. -/
def fnExactMapValidSpec : ChangeSpec := { name := "fnExactMapValid", fn := fun _ => fun
  | [d] => { results := [.lit (.bool true)], args := [d] }
  | _ => none }
def fnExactMapValidRow : OpenClaim := { program := "ytengdgjnimchaaa", sum := "3d883192925b52ef375cd007ff284290b8cfb40458044edb9ba5f69c8c3bfb95", func := "loop.example/surfacemaps/laws.FnExactMapValid", spec := "fnExactMapValid", apart := false }
def FnExactMapValidSaid : Prop := fnExactMapValidRow.holds Try.pinned (OpenSpec.ofChange fnExactMapValidSpec)

/-- ITS FALSE NEIGHBOUR: 'it returns false'. Refute it at one input. -/
def fnExactMapValidWrong : ChangeSpec := { name := "fnExactMapValid", fn := fun _ => fun
  | [d] => { results := [.lit (.bool false)], args := [d] }
  | _ => none }
def FnExactMapValidWrongFalsely : Prop := fnExactMapValidRow.holds Try.pinned (OpenSpec.ofChange fnExactMapValidWrong)

/-- 'laws.FnExactMapFar': WHATEVER THE INPUT: true; the input reads as it did. -/
def fnExactMapFarSpec : ChangeSpec := { name := "fnExactMapFar", fn := fun _ => fun
  | [d1, d2, d3] => { results := [.lit (.bool true)], args := [d1, d2, d3] }
  | _ => none }
def fnExactMapFarRow : OpenClaim := { program := "ytengdgjnimchaaa", sum := "3d883192925b52ef375cd007ff284290b8cfb40458044edb9ba5f69c8c3bfb95", func := "loop.example/surfacemaps/laws.FnExactMapFar", spec := "fnExactMapFar", unfollowed := true, recurses := true, apart := false }
def FnExactMapFarSaid : Prop := fnExactMapFarRow.holds Try.pinned (OpenSpec.ofChange fnExactMapFarSpec)

/-- ITS FALSE NEIGHBOUR: 'it returns false'. Refute it at one input. -/
def fnExactMapFarWrong : ChangeSpec := { name := "fnExactMapFar", fn := fun _ => fun
  | [d1, d2, d3] => { results := [.lit (.bool false)], args := [d1, d2, d3] }
  | _ => none }
def FnExactMapFarWrongFalsely : Prop := fnExactMapFarRow.holds Try.pinned (OpenSpec.ofChange fnExactMapFarWrong)

/-- 'laws.FnExactMapFaces': WHATEVER THE INPUT: true; the input reads as it did. -/
def fnExactMapFacesSpec : ChangeSpec := { name := "fnExactMapFaces", fn := fun _ => fun
  | [d] => { results := [.lit (.bool true)], args := [d] }
  | _ => none }
def fnExactMapFacesRow : OpenClaim := { program := "ytengdgjnimchaaa", sum := "3d883192925b52ef375cd007ff284290b8cfb40458044edb9ba5f69c8c3bfb95", func := "loop.example/surfacemaps/laws.FnExactMapFaces", spec := "fnExactMapFaces", apart := false }
def FnExactMapFacesSaid : Prop := fnExactMapFacesRow.holds Try.pinned (OpenSpec.ofChange fnExactMapFacesSpec)

/-- ITS FALSE NEIGHBOUR: 'it returns false'. Refute it at one input. -/
def fnExactMapFacesWrong : ChangeSpec := { name := "fnExactMapFaces", fn := fun _ => fun
  | [d] => { results := [.lit (.bool false)], args := [d] }
  | _ => none }
def FnExactMapFacesWrongFalsely : Prop := fnExactMapFacesRow.holds Try.pinned (OpenSpec.ofChange fnExactMapFacesWrong)

/-- 'laws.FnExactMapGenus': WHATEVER THE INPUT: true; the input reads as it did. -/
def fnExactMapGenusSpec : ChangeSpec := { name := "fnExactMapGenus", fn := fun _ => fun
  | [d] => { results := [.lit (.bool true)], args := [d] }
  | _ => none }
def fnExactMapGenusRow : OpenClaim := { program := "ytengdgjnimchaaa", sum := "3d883192925b52ef375cd007ff284290b8cfb40458044edb9ba5f69c8c3bfb95", func := "loop.example/surfacemaps/laws.FnExactMapGenus", spec := "fnExactMapGenus", apart := false }
def FnExactMapGenusSaid : Prop := fnExactMapGenusRow.holds Try.pinned (OpenSpec.ofChange fnExactMapGenusSpec)

/-- ITS FALSE NEIGHBOUR: 'it returns false'. Refute it at one input. -/
def fnExactMapGenusWrong : ChangeSpec := { name := "fnExactMapGenus", fn := fun _ => fun
  | [d] => { results := [.lit (.bool false)], args := [d] }
  | _ => none }
def FnExactMapGenusWrongFalsely : Prop := fnExactMapGenusRow.holds Try.pinned (OpenSpec.ofChange fnExactMapGenusWrong)

/-- 'laws.FnExactMapMirror': WHATEVER THE INPUT: true; the input reads as it did. -/
def fnExactMapMirrorSpec : ChangeSpec := { name := "fnExactMapMirror", fn := fun _ => fun
  | [d] => { results := [.lit (.bool true)], args := [d] }
  | _ => none }
def fnExactMapMirrorRow : OpenClaim := { program := "ytengdgjnimchaaa", sum := "3d883192925b52ef375cd007ff284290b8cfb40458044edb9ba5f69c8c3bfb95", func := "loop.example/surfacemaps/laws.FnExactMapMirror", spec := "fnExactMapMirror", apart := false }
def FnExactMapMirrorSaid : Prop := fnExactMapMirrorRow.holds Try.pinned (OpenSpec.ofChange fnExactMapMirrorSpec)

/-- ITS FALSE NEIGHBOUR: 'it returns false'. Refute it at one input. -/
def fnExactMapMirrorWrong : ChangeSpec := { name := "fnExactMapMirror", fn := fun _ => fun
  | [d] => { results := [.lit (.bool false)], args := [d] }
  | _ => none }
def FnExactMapMirrorWrongFalsely : Prop := fnExactMapMirrorRow.holds Try.pinned (OpenSpec.ofChange fnExactMapMirrorWrong)

/-- 'laws.FnExactMapDual': WHATEVER THE INPUT: true; the input reads as it did. -/
def fnExactMapDualSpec : ChangeSpec := { name := "fnExactMapDual", fn := fun _ => fun
  | [d] => { results := [.lit (.bool true)], args := [d] }
  | _ => none }
def fnExactMapDualRow : OpenClaim := { program := "ytengdgjnimchaaa", sum := "3d883192925b52ef375cd007ff284290b8cfb40458044edb9ba5f69c8c3bfb95", func := "loop.example/surfacemaps/laws.FnExactMapDual", spec := "fnExactMapDual", apart := false }
def FnExactMapDualSaid : Prop := fnExactMapDualRow.holds Try.pinned (OpenSpec.ofChange fnExactMapDualSpec)

/-- ITS FALSE NEIGHBOUR: 'it returns false'. Refute it at one input. -/
def fnExactMapDualWrong : ChangeSpec := { name := "fnExactMapDual", fn := fun _ => fun
  | [d] => { results := [.lit (.bool false)], args := [d] }
  | _ => none }
def FnExactMapDualWrongFalsely : Prop := fnExactMapDualRow.holds Try.pinned (OpenSpec.ofChange fnExactMapDualWrong)

/-- 'laws.FnExactMapCounts': WHATEVER THE INPUT: true; the input reads as it did. -/
def fnExactMapCountsSpec : ChangeSpec := { name := "fnExactMapCounts", fn := fun _ => fun
  | [d] => { results := [.lit (.bool true)], args := [d] }
  | _ => none }
def fnExactMapCountsRow : OpenClaim := { program := "ytengdgjnimchaaa", sum := "3d883192925b52ef375cd007ff284290b8cfb40458044edb9ba5f69c8c3bfb95", func := "loop.example/surfacemaps/laws.FnExactMapCounts", spec := "fnExactMapCounts", apart := false }
def FnExactMapCountsSaid : Prop := fnExactMapCountsRow.holds Try.pinned (OpenSpec.ofChange fnExactMapCountsSpec)

/-- ITS FALSE NEIGHBOUR: 'it returns false'. Refute it at one input. -/
def fnExactMapCountsWrong : ChangeSpec := { name := "fnExactMapCounts", fn := fun _ => fun
  | [d] => { results := [.lit (.bool false)], args := [d] }
  | _ => none }
def FnExactMapCountsWrongFalsely : Prop := fnExactMapCountsRow.holds Try.pinned (OpenSpec.ofChange fnExactMapCountsWrong)

/-- 'laws.FnExactMapRename': WHATEVER THE INPUT: true; the input reads as it did. -/
def fnExactMapRenameSpec : ChangeSpec := { name := "fnExactMapRename", fn := fun _ => fun
  | [d1, d2] => { results := [.lit (.bool true)], args := [d1, d2] }
  | _ => none }
def fnExactMapRenameRow : OpenClaim := { program := "ytengdgjnimchaaa", sum := "3d883192925b52ef375cd007ff284290b8cfb40458044edb9ba5f69c8c3bfb95", func := "loop.example/surfacemaps/laws.FnExactMapRename", spec := "fnExactMapRename", apart := false }
def FnExactMapRenameSaid : Prop := fnExactMapRenameRow.holds Try.pinned (OpenSpec.ofChange fnExactMapRenameSpec)

/-- ITS FALSE NEIGHBOUR: 'it returns false'. Refute it at one input. -/
def fnExactMapRenameWrong : ChangeSpec := { name := "fnExactMapRename", fn := fun _ => fun
  | [d1, d2] => { results := [.lit (.bool false)], args := [d1, d2] }
  | _ => none }
def FnExactMapRenameWrongFalsely : Prop := fnExactMapRenameRow.holds Try.pinned (OpenSpec.ofChange fnExactMapRenameWrong)

/- THE SECOND FORM. 'bulk': how many values and letters a reading holds, each counted each time it is reached (what is shared counts as often as it is met; a slice's spare places count too). A statement '..UptoSaid' is the law's where the arguments, and the package variables that the reading takes, are together of bulk at most 1048576: NARROWER than '..Said'. Prove '..Said' where nothing that the law and all that it calls make is longer than what came in: it says more and counts as full. Else prove '..UptoSaid'. A law counts once. -/
mutual
def uptoBulk {H : Type} : DataW H → Nat
  | .lit (.string bytes) => bytes.length + 1
  | .lit _ => 1
  | .nil => 1
  | .ptr d => uptoBulk d + 1
  | .slice elems spare => uptoBulkAll elems + uptoBulkAll spare + 1
  | .agg parts => uptoBulkAll parts + 1
  | .iface _ d => uptoBulk d + 1
  | .map entries => uptoBulkEntries entries + 1
  | .held _ => 1
def uptoBulkAll {H : Type} : List (DataW H) → Nat
  | [] => 0
  | d :: r => uptoBulk d + uptoBulkAll r
def uptoBulkEntries {H : Type} : List (Lit × DataW H) → Nat
  | [] => 0
  | x :: r => uptoBulkEntry x + uptoBulkEntries r
def uptoBulkEntry {H : Type} : Lit × DataW H → Nat
  | (.string bytes, d) => bytes.length + uptoBulk d + 1
  | (_, d) => uptoBulk d + 1
 end
def uptoSmall : (H : Type) → List (DataW H) → Bool := fun _ ds => decide (uptoBulkAll ds ≤ 1048576)
def OpenSpec.upto (s : _root_.Go.ChangeSpec) : _root_.Go.OpenSpec := { _root_.Go.OpenSpec.ofChange s with cond := some uptoSmall }

/-- 'laws.FnExactMapValid', WHERE WHAT IT READS IS OF BULK AT MOST 1048576: true; the input reads as it did. -/
def fnExactMapValidUptoRow : OpenClaim := { program := "ytengdgjnimchaaa", sum := "3d883192925b52ef375cd007ff284290b8cfb40458044edb9ba5f69c8c3bfb95", func := "loop.example/surfacemaps/laws.FnExactMapValid", spec := "fnExactMapValid", apart := false, narrowed := true }
def FnExactMapValidUptoSaid : Prop := fnExactMapValidUptoRow.holds Try.pinned (OpenSpec.upto fnExactMapValidSpec)

/-- 'laws.FnExactMapFar', WHERE WHAT IT READS IS OF BULK AT MOST 1048576: true; the input reads as it did. -/
def fnExactMapFarUptoRow : OpenClaim := { program := "ytengdgjnimchaaa", sum := "3d883192925b52ef375cd007ff284290b8cfb40458044edb9ba5f69c8c3bfb95", func := "loop.example/surfacemaps/laws.FnExactMapFar", spec := "fnExactMapFar", unfollowed := true, recurses := true, apart := false, narrowed := true }
def FnExactMapFarUptoSaid : Prop := fnExactMapFarUptoRow.holds Try.pinned (OpenSpec.upto fnExactMapFarSpec)

/-- 'laws.FnExactMapFaces', WHERE WHAT IT READS IS OF BULK AT MOST 1048576: true; the input reads as it did. -/
def fnExactMapFacesUptoRow : OpenClaim := { program := "ytengdgjnimchaaa", sum := "3d883192925b52ef375cd007ff284290b8cfb40458044edb9ba5f69c8c3bfb95", func := "loop.example/surfacemaps/laws.FnExactMapFaces", spec := "fnExactMapFaces", apart := false, narrowed := true }
def FnExactMapFacesUptoSaid : Prop := fnExactMapFacesUptoRow.holds Try.pinned (OpenSpec.upto fnExactMapFacesSpec)

/-- 'laws.FnExactMapGenus', WHERE WHAT IT READS IS OF BULK AT MOST 1048576: true; the input reads as it did. -/
def fnExactMapGenusUptoRow : OpenClaim := { program := "ytengdgjnimchaaa", sum := "3d883192925b52ef375cd007ff284290b8cfb40458044edb9ba5f69c8c3bfb95", func := "loop.example/surfacemaps/laws.FnExactMapGenus", spec := "fnExactMapGenus", apart := false, narrowed := true }
def FnExactMapGenusUptoSaid : Prop := fnExactMapGenusUptoRow.holds Try.pinned (OpenSpec.upto fnExactMapGenusSpec)

/-- 'laws.FnExactMapMirror', WHERE WHAT IT READS IS OF BULK AT MOST 1048576: true; the input reads as it did. -/
def fnExactMapMirrorUptoRow : OpenClaim := { program := "ytengdgjnimchaaa", sum := "3d883192925b52ef375cd007ff284290b8cfb40458044edb9ba5f69c8c3bfb95", func := "loop.example/surfacemaps/laws.FnExactMapMirror", spec := "fnExactMapMirror", apart := false, narrowed := true }
def FnExactMapMirrorUptoSaid : Prop := fnExactMapMirrorUptoRow.holds Try.pinned (OpenSpec.upto fnExactMapMirrorSpec)

/-- 'laws.FnExactMapDual', WHERE WHAT IT READS IS OF BULK AT MOST 1048576: true; the input reads as it did. -/
def fnExactMapDualUptoRow : OpenClaim := { program := "ytengdgjnimchaaa", sum := "3d883192925b52ef375cd007ff284290b8cfb40458044edb9ba5f69c8c3bfb95", func := "loop.example/surfacemaps/laws.FnExactMapDual", spec := "fnExactMapDual", apart := false, narrowed := true }
def FnExactMapDualUptoSaid : Prop := fnExactMapDualUptoRow.holds Try.pinned (OpenSpec.upto fnExactMapDualSpec)

/-- 'laws.FnExactMapCounts', WHERE WHAT IT READS IS OF BULK AT MOST 1048576: true; the input reads as it did. -/
def fnExactMapCountsUptoRow : OpenClaim := { program := "ytengdgjnimchaaa", sum := "3d883192925b52ef375cd007ff284290b8cfb40458044edb9ba5f69c8c3bfb95", func := "loop.example/surfacemaps/laws.FnExactMapCounts", spec := "fnExactMapCounts", apart := false, narrowed := true }
def FnExactMapCountsUptoSaid : Prop := fnExactMapCountsUptoRow.holds Try.pinned (OpenSpec.upto fnExactMapCountsSpec)

/-- 'laws.FnExactMapRename', WHERE WHAT IT READS IS OF BULK AT MOST 1048576: true; the input reads as it did. -/
def fnExactMapRenameUptoRow : OpenClaim := { program := "ytengdgjnimchaaa", sum := "3d883192925b52ef375cd007ff284290b8cfb40458044edb9ba5f69c8c3bfb95", func := "loop.example/surfacemaps/laws.FnExactMapRename", spec := "fnExactMapRename", apart := false, narrowed := true }
def FnExactMapRenameUptoSaid : Prop := fnExactMapRenameUptoRow.holds Try.pinned (OpenSpec.upto fnExactMapRenameSpec)

end Rows
end Go.Proofs.Ytengdgjnimchaaa
