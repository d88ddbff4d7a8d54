/-
  No cell of these rows narrows 'for every input' (looked for: loops, veiled, ifaces, maps, wideKeys, modest, calm, conditions, laid).
  DERIVED. THE GIVEN ROWS OF THIS SEAT. 5 by the template 'for every input the law returns true; each argument reads behind the call as it read before'; 0 by the template 'total and deterministic' (their statements: YtajmkjeiegdpcaaTotals.lean).
  GIVEN WITH THE SEED: the statements are not yours to turn. If you find one false, say at which input.
  Laid BY PROGRAM, IN A SANDBOX (cutbox-rows.mjs): the forced cells as the released guide's own fill.sh prints them over the translation 696a4cca2f662632… (all of the seat's roots in one cut). By AI agents, Wed Nov 11 2026. No macro, syntax, notation, axiom, sorry.
-/
import Derived.Test.YtajmkjeiegdpcaaChecked
import GoSem.Claim
import GoSem.ClaimJoined
import GoSem.ClaimMapViews
import Derived.JoinedTies
import Derived.KernelRfl
namespace Go.Proofs.Ytajmkjeiegdpcaa
/- THE CELL 'sum', in the pinned program and in every row, IS THE sha256 OF THE DUMP (.gsa) THAT YtajmkjeiegdpcaaProg.lean LOADS. Nothing in Lean hashes anything: it is a label: what it is worth is what the hold of that sum in a sandbox is worth. -/
noncomputable def Try.pinned : Pinned := { name := "ytajmkjeiegdpcaa", sum := "696a4cca2f662632acb9f98f7d86055f7e30eb69ae04177ca719e19dd7c94b02", checked := Try.checked }
namespace Rows
def none {H : Type} : Left H := { results := [], args := [] }

/-- 'laws.FnExactPermCycles': WHATEVER THE INPUT: true; the input reads as it did. -/
def fnExactPermCyclesSpec : ChangeSpec := { name := "fnExactPermCycles", fn := fun _ => fun
  | [d] => { results := [.lit (.bool true)], args := [d] }
  | _ => none }
def fnExactPermCyclesRow : OpenClaim := { program := "ytajmkjeiegdpcaa", sum := "696a4cca2f662632acb9f98f7d86055f7e30eb69ae04177ca719e19dd7c94b02", func := "loop.example/surfacemaps/laws.FnExactPermCycles", spec := "fnExactPermCycles", apart := false }
def FnExactPermCyclesSaid : Prop := fnExactPermCyclesRow.holds Try.pinned (OpenSpec.ofChange fnExactPermCyclesSpec)

/-- ITS FALSE NEIGHBOUR: 'it returns false'. Refute it at one input. -/
def fnExactPermCyclesWrong : ChangeSpec := { name := "fnExactPermCycles", fn := fun _ => fun
  | [d] => { results := [.lit (.bool false)], args := [d] }
  | _ => none }
def FnExactPermCyclesWrongFalsely : Prop := fnExactPermCyclesRow.holds Try.pinned (OpenSpec.ofChange fnExactPermCyclesWrong)

/-- 'laws.FnCycles': WHATEVER THE INPUT: true; the input reads as it did. -/
def fnCyclesSpec : ChangeSpec := { name := "fnCycles", fn := fun _ => fun
  | [d] => { results := [.lit (.bool true)], args := [d] }
  | _ => none }
def fnCyclesRow : OpenClaim := { program := "ytajmkjeiegdpcaa", sum := "696a4cca2f662632acb9f98f7d86055f7e30eb69ae04177ca719e19dd7c94b02", func := "loop.example/surfacemaps/laws.FnCycles", spec := "fnCycles", apart := false }
def FnCyclesSaid : Prop := fnCyclesRow.holds Try.pinned (OpenSpec.ofChange fnCyclesSpec)

/-- ITS FALSE NEIGHBOUR: 'it returns false'. Refute it at one input. -/
def fnCyclesWrong : ChangeSpec := { name := "fnCycles", fn := fun _ => fun
  | [d] => { results := [.lit (.bool false)], args := [d] }
  | _ => none }
def FnCyclesWrongFalsely : Prop := fnCyclesRow.holds Try.pinned (OpenSpec.ofChange fnCyclesWrong)

/-- 'laws.FnExactMapFar': WHATEVER THE INPUT: true; the input reads as it did. -/
def fnExactMapFarSpec : ChangeSpec := { name := "fnExactMapFar", fn := fun _ => fun
  | [d1, d2, d3] => { results := [.lit (.bool true)], args := [d1, d2, d3] }
  | _ => none }
def fnExactMapFarRow : OpenClaim := { program := "ytajmkjeiegdpcaa", sum := "696a4cca2f662632acb9f98f7d86055f7e30eb69ae04177ca719e19dd7c94b02", func := "loop.example/surfacemaps/laws.FnExactMapFar", spec := "fnExactMapFar", unfollowed := true, recurses := true, apart := false }
def FnExactMapFarSaid : Prop := fnExactMapFarRow.holds Try.pinned (OpenSpec.ofChange fnExactMapFarSpec)

/-- ITS FALSE NEIGHBOUR: 'it returns false'. Refute it at one input. -/
def fnExactMapFarWrong : ChangeSpec := { name := "fnExactMapFar", fn := fun _ => fun
  | [d1, d2, d3] => { results := [.lit (.bool false)], args := [d1, d2, d3] }
  | _ => none }
def FnExactMapFarWrongFalsely : Prop := fnExactMapFarRow.holds Try.pinned (OpenSpec.ofChange fnExactMapFarWrong)

/-- 'laws.FnExactMapRename': WHATEVER THE INPUT: true; the input reads as it did. -/
def fnExactMapRenameSpec : ChangeSpec := { name := "fnExactMapRename", fn := fun _ => fun
  | [d1, d2] => { results := [.lit (.bool true)], args := [d1, d2] }
  | _ => none }
def fnExactMapRenameRow : OpenClaim := { program := "ytajmkjeiegdpcaa", sum := "696a4cca2f662632acb9f98f7d86055f7e30eb69ae04177ca719e19dd7c94b02", func := "loop.example/surfacemaps/laws.FnExactMapRename", spec := "fnExactMapRename", apart := false }
def FnExactMapRenameSaid : Prop := fnExactMapRenameRow.holds Try.pinned (OpenSpec.ofChange fnExactMapRenameSpec)

/-- ITS FALSE NEIGHBOUR: 'it returns false'. Refute it at one input. -/
def fnExactMapRenameWrong : ChangeSpec := { name := "fnExactMapRename", fn := fun _ => fun
  | [d1, d2] => { results := [.lit (.bool false)], args := [d1, d2] }
  | _ => none }
def FnExactMapRenameWrongFalsely : Prop := fnExactMapRenameRow.holds Try.pinned (OpenSpec.ofChange fnExactMapRenameWrong)

/-- 'laws.FnExactMapLeast': WHATEVER THE INPUT: true; the input reads as it did. -/
def fnExactMapLeastSpec : ChangeSpec := { name := "fnExactMapLeast", fn := fun _ => fun
  | [d] => { results := [.lit (.bool true)], args := [d] }
  | _ => none }
def fnExactMapLeastRow : OpenClaim := { program := "ytajmkjeiegdpcaa", sum := "696a4cca2f662632acb9f98f7d86055f7e30eb69ae04177ca719e19dd7c94b02", func := "loop.example/surfacemaps/laws.FnExactMapLeast", spec := "fnExactMapLeast", apart := false }
def FnExactMapLeastSaid : Prop := fnExactMapLeastRow.holds Try.pinned (OpenSpec.ofChange fnExactMapLeastSpec)

/-- ITS FALSE NEIGHBOUR: 'it returns false'. Refute it at one input. -/
def fnExactMapLeastWrong : ChangeSpec := { name := "fnExactMapLeast", fn := fun _ => fun
  | [d] => { results := [.lit (.bool false)], args := [d] }
  | _ => none }
def FnExactMapLeastWrongFalsely : Prop := fnExactMapLeastRow.holds Try.pinned (OpenSpec.ofChange fnExactMapLeastWrong)

/- THE SECOND FORM. 'bulk': how many values and letters a reading holds, each counted each time it is reached (what is shared counts as often as it is met; a slice's spare places count too). A statement '..UptoSaid' is the law's where the arguments, and the package variables that the reading takes, are together of bulk at most 1048576: NARROWER than '..Said'. Prove '..Said' where nothing that the law and all that it calls make is longer than what came in: it says more and counts as full. Else prove '..UptoSaid'. A law counts once. -/
mutual
def uptoBulk {H : Type} : DataW H → Nat
  | .lit (.string bytes) => bytes.length + 1
  | .lit _ => 1
  | .nil => 1
  | .ptr d => uptoBulk d + 1
  | .slice elems spare => uptoBulkAll elems + uptoBulkAll spare + 1
  | .agg parts => uptoBulkAll parts + 1
  | .iface _ d => uptoBulk d + 1
  | .map entries => uptoBulkEntries entries + 1
  | .held _ => 1
def uptoBulkAll {H : Type} : List (DataW H) → Nat
  | [] => 0
  | d :: r => uptoBulk d + uptoBulkAll r
def uptoBulkEntries {H : Type} : List (Lit × DataW H) → Nat
  | [] => 0
  | x :: r => uptoBulkEntry x + uptoBulkEntries r
def uptoBulkEntry {H : Type} : Lit × DataW H → Nat
  | (.string bytes, d) => bytes.length + uptoBulk d + 1
  | (_, d) => uptoBulk d + 1
 end
def uptoSmall : (H : Type) → List (DataW H) → Bool := fun _ ds => decide (uptoBulkAll ds ≤ 1048576)
def OpenSpec.upto (s : _root_.Go.ChangeSpec) : _root_.Go.OpenSpec := { _root_.Go.OpenSpec.ofChange s with cond := some uptoSmall }

/-- 'laws.FnExactPermCycles', WHERE WHAT IT READS IS OF BULK AT MOST 1048576: true; the input reads as it did. -/
def fnExactPermCyclesUptoRow : OpenClaim := { program := "ytajmkjeiegdpcaa", sum := "696a4cca2f662632acb9f98f7d86055f7e30eb69ae04177ca719e19dd7c94b02", func := "loop.example/surfacemaps/laws.FnExactPermCycles", spec := "fnExactPermCycles", apart := false, narrowed := true }
def FnExactPermCyclesUptoSaid : Prop := fnExactPermCyclesUptoRow.holds Try.pinned (OpenSpec.upto fnExactPermCyclesSpec)

/-- 'laws.FnCycles', WHERE WHAT IT READS IS OF BULK AT MOST 1048576: true; the input reads as it did. -/
def fnCyclesUptoRow : OpenClaim := { program := "ytajmkjeiegdpcaa", sum := "696a4cca2f662632acb9f98f7d86055f7e30eb69ae04177ca719e19dd7c94b02", func := "loop.example/surfacemaps/laws.FnCycles", spec := "fnCycles", apart := false, narrowed := true }
def FnCyclesUptoSaid : Prop := fnCyclesUptoRow.holds Try.pinned (OpenSpec.upto fnCyclesSpec)

/-- 'laws.FnExactMapFar', WHERE WHAT IT READS IS OF BULK AT MOST 1048576: true; the input reads as it did. -/
def fnExactMapFarUptoRow : OpenClaim := { program := "ytajmkjeiegdpcaa", sum := "696a4cca2f662632acb9f98f7d86055f7e30eb69ae04177ca719e19dd7c94b02", func := "loop.example/surfacemaps/laws.FnExactMapFar", spec := "fnExactMapFar", unfollowed := true, recurses := true, apart := false, narrowed := true }
def FnExactMapFarUptoSaid : Prop := fnExactMapFarUptoRow.holds Try.pinned (OpenSpec.upto fnExactMapFarSpec)

/-- 'laws.FnExactMapRename', WHERE WHAT IT READS IS OF BULK AT MOST 1048576: true; the input reads as it did. -/
def fnExactMapRenameUptoRow : OpenClaim := { program := "ytajmkjeiegdpcaa", sum := "696a4cca2f662632acb9f98f7d86055f7e30eb69ae04177ca719e19dd7c94b02", func := "loop.example/surfacemaps/laws.FnExactMapRename", spec := "fnExactMapRename", apart := false, narrowed := true }
def FnExactMapRenameUptoSaid : Prop := fnExactMapRenameUptoRow.holds Try.pinned (OpenSpec.upto fnExactMapRenameSpec)

/-- 'laws.FnExactMapLeast', WHERE WHAT IT READS IS OF BULK AT MOST 1048576: true; the input reads as it did. -/
def fnExactMapLeastUptoRow : OpenClaim := { program := "ytajmkjeiegdpcaa", sum := "696a4cca2f662632acb9f98f7d86055f7e30eb69ae04177ca719e19dd7c94b02", func := "loop.example/surfacemaps/laws.FnExactMapLeast", spec := "fnExactMapLeast", apart := false, narrowed := true }
def FnExactMapLeastUptoSaid : Prop := fnExactMapLeastUptoRow.holds Try.pinned (OpenSpec.upto fnExactMapLeastSpec)

end Rows
end Go.Proofs.Ytajmkjeiegdpcaa
