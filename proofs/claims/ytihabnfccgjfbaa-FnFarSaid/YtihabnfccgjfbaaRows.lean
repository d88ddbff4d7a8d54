/-
  No cell of these rows narrows 'for every input' (looked for: loops, veiled, ifaces, maps, wideKeys, modest, calm, conditions, laid).
  DERIVED. THE GIVEN ROWS OF THIS SEAT. 6 by the template 'for every input the law returns true; each argument reads behind the call as it read before'; 0 by the template 'total and deterministic' (their statements: YtihabnfccgjfbaaTotals.lean).
  GIVEN WITH THE SEED: the statements are not yours to turn. If you find one false, say at which input.
  Laid BY PROGRAM, IN A SANDBOX (cutbox-rows.mjs): the forced cells as the released guide's own fill.sh prints them over the translation 17c299606ef1668d… (all of the seat's roots in one cut). By AI agents, Wed Nov 11 2026. No macro, syntax, notation, axiom, sorry.
-/
import Derived.Test.YtihabnfccgjfbaaChecked
import GoSem.Claim
import GoSem.ClaimJoined
import GoSem.ClaimMapViews
import Derived.JoinedTies
import Derived.KernelRfl
namespace Go.Proofs.Ytihabnfccgjfbaa
/- THE CELL 'sum', in the pinned program and in every row, IS THE sha256 OF THE DUMP (.gsa) THAT YtihabnfccgjfbaaProg.lean LOADS. Nothing in Lean hashes anything: it is a label: what it is worth is what the hold of that sum in a sandbox is worth. -/
noncomputable def Try.pinned : Pinned := { name := "ytihabnfccgjfbaa", sum := "17c299606ef1668d3616e561d37d71e9715a8c7e8744388931d492dc7195e75a", checked := Try.checked }
namespace Rows
def none {H : Type} : Left H := { results := [], args := [] }

/-- 'laws.FnFaces': WHATEVER THE INPUT: true; the input reads as it did. -/
def fnFacesSpec : ChangeSpec := { name := "fnFaces", fn := fun _ => fun
  | [d] => { results := [.lit (.bool true)], args := [d] }
  | _ => none }
def fnFacesRow : OpenClaim := { program := "ytihabnfccgjfbaa", sum := "17c299606ef1668d3616e561d37d71e9715a8c7e8744388931d492dc7195e75a", func := "loop.example/surfacemaps/laws.FnFaces", spec := "fnFaces", apart := false }
def FnFacesSaid : Prop := fnFacesRow.holds Try.pinned (OpenSpec.ofChange fnFacesSpec)

/-- ITS FALSE NEIGHBOUR: 'it returns false'. Refute it at one input. -/
def fnFacesWrong : ChangeSpec := { name := "fnFaces", fn := fun _ => fun
  | [d] => { results := [.lit (.bool false)], args := [d] }
  | _ => none }
def FnFacesWrongFalsely : Prop := fnFacesRow.holds Try.pinned (OpenSpec.ofChange fnFacesWrong)

/-- 'laws.FnFar': WHATEVER THE INPUT: true; the input reads as it did. -/
def fnFarSpec : ChangeSpec := { name := "fnFar", fn := fun _ => fun
  | [d1, d2] => { results := [.lit (.bool true)], args := [d1, d2] }
  | _ => none }
def fnFarRow : OpenClaim := { program := "ytihabnfccgjfbaa", sum := "17c299606ef1668d3616e561d37d71e9715a8c7e8744388931d492dc7195e75a", func := "loop.example/surfacemaps/laws.FnFar", spec := "fnFar", unfollowed := true, recurses := true, apart := false }
def FnFarSaid : Prop := fnFarRow.holds Try.pinned (OpenSpec.ofChange fnFarSpec)

/-- ITS FALSE NEIGHBOUR: 'it returns false'. Refute it at one input. -/
def fnFarWrong : ChangeSpec := { name := "fnFar", fn := fun _ => fun
  | [d1, d2] => { results := [.lit (.bool false)], args := [d1, d2] }
  | _ => none }
def FnFarWrongFalsely : Prop := fnFarRow.holds Try.pinned (OpenSpec.ofChange fnFarWrong)

/-- 'laws.FnDual': WHATEVER THE INPUT: true; the input reads as it did. -/
def fnDualSpec : ChangeSpec := { name := "fnDual", fn := fun _ => fun
  | [d1, d2] => { results := [.lit (.bool true)], args := [d1, d2] }
  | _ => none }
def fnDualRow : OpenClaim := { program := "ytihabnfccgjfbaa", sum := "17c299606ef1668d3616e561d37d71e9715a8c7e8744388931d492dc7195e75a", func := "loop.example/surfacemaps/laws.FnDual", spec := "fnDual", apart := false }
def FnDualSaid : Prop := fnDualRow.holds Try.pinned (OpenSpec.ofChange fnDualSpec)

/-- ITS FALSE NEIGHBOUR: 'it returns false'. Refute it at one input. -/
def fnDualWrong : ChangeSpec := { name := "fnDual", fn := fun _ => fun
  | [d1, d2] => { results := [.lit (.bool false)], args := [d1, d2] }
  | _ => none }
def FnDualWrongFalsely : Prop := fnDualRow.holds Try.pinned (OpenSpec.ofChange fnDualWrong)

/-- 'laws.FnGenus': WHATEVER THE INPUT: true; the input reads as it did. -/
def fnGenusSpec : ChangeSpec := { name := "fnGenus", fn := fun _ => fun
  | [d1, d2] => { results := [.lit (.bool true)], args := [d1, d2] }
  | _ => none }
def fnGenusRow : OpenClaim := { program := "ytihabnfccgjfbaa", sum := "17c299606ef1668d3616e561d37d71e9715a8c7e8744388931d492dc7195e75a", func := "loop.example/surfacemaps/laws.FnGenus", spec := "fnGenus", apart := false }
def FnGenusSaid : Prop := fnGenusRow.holds Try.pinned (OpenSpec.ofChange fnGenusSpec)

/-- ITS FALSE NEIGHBOUR: 'it returns false'. Refute it at one input. -/
def fnGenusWrong : ChangeSpec := { name := "fnGenus", fn := fun _ => fun
  | [d1, d2] => { results := [.lit (.bool false)], args := [d1, d2] }
  | _ => none }
def FnGenusWrongFalsely : Prop := fnGenusRow.holds Try.pinned (OpenSpec.ofChange fnGenusWrong)

/-- 'laws.FnRename': WHATEVER THE INPUT: true; the input reads as it did. -/
def fnRenameSpec : ChangeSpec := { name := "fnRename", fn := fun _ => fun
  | [d1, d2] => { results := [.lit (.bool true)], args := [d1, d2] }
  | _ => none }
def fnRenameRow : OpenClaim := { program := "ytihabnfccgjfbaa", sum := "17c299606ef1668d3616e561d37d71e9715a8c7e8744388931d492dc7195e75a", func := "loop.example/surfacemaps/laws.FnRename", spec := "fnRename", apart := false }
def FnRenameSaid : Prop := fnRenameRow.holds Try.pinned (OpenSpec.ofChange fnRenameSpec)

/-- ITS FALSE NEIGHBOUR: 'it returns false'. Refute it at one input. -/
def fnRenameWrong : ChangeSpec := { name := "fnRename", fn := fun _ => fun
  | [d1, d2] => { results := [.lit (.bool false)], args := [d1, d2] }
  | _ => none }
def FnRenameWrongFalsely : Prop := fnRenameRow.holds Try.pinned (OpenSpec.ofChange fnRenameWrong)

/-- 'laws.FnForm': WHATEVER THE INPUT: true; the input reads as it did. -/
def fnFormSpec : ChangeSpec := { name := "fnForm", fn := fun _ => fun
  | [d] => { results := [.lit (.bool true)], args := [d] }
  | _ => none }
def fnFormRow : OpenClaim := { program := "ytihabnfccgjfbaa", sum := "17c299606ef1668d3616e561d37d71e9715a8c7e8744388931d492dc7195e75a", func := "loop.example/surfacemaps/laws.FnForm", spec := "fnForm", apart := false }
def FnFormSaid : Prop := fnFormRow.holds Try.pinned (OpenSpec.ofChange fnFormSpec)

/-- ITS FALSE NEIGHBOUR: 'it returns false'. Refute it at one input. -/
def fnFormWrong : ChangeSpec := { name := "fnForm", fn := fun _ => fun
  | [d] => { results := [.lit (.bool false)], args := [d] }
  | _ => none }
def FnFormWrongFalsely : Prop := fnFormRow.holds Try.pinned (OpenSpec.ofChange fnFormWrong)

/- THE SECOND FORM. 'bulk': how many values and letters a reading holds, each counted each time it is reached (what is shared counts as often as it is met; a slice's spare places count too). A statement '..UptoSaid' is the law's where the arguments, and the package variables that the reading takes, are together of bulk at most 1048576: NARROWER than '..Said'. Prove '..Said' where nothing that the law and all that it calls make is longer than what came in: it says more and counts as full. Else prove '..UptoSaid'. A law counts once. -/
mutual
def uptoBulk {H : Type} : DataW H → Nat
  | .lit (.string bytes) => bytes.length + 1
  | .lit _ => 1
  | .nil => 1
  | .ptr d => uptoBulk d + 1
  | .slice elems spare => uptoBulkAll elems + uptoBulkAll spare + 1
  | .agg parts => uptoBulkAll parts + 1
  | .iface _ d => uptoBulk d + 1
  | .map entries => uptoBulkEntries entries + 1
  | .held _ => 1
def uptoBulkAll {H : Type} : List (DataW H) → Nat
  | [] => 0
  | d :: r => uptoBulk d + uptoBulkAll r
def uptoBulkEntries {H : Type} : List (Lit × DataW H) → Nat
  | [] => 0
  | x :: r => uptoBulkEntry x + uptoBulkEntries r
def uptoBulkEntry {H : Type} : Lit × DataW H → Nat
  | (.string bytes, d) => bytes.length + uptoBulk d + 1
  | (_, d) => uptoBulk d + 1
 end
def uptoSmall : (H : Type) → List (DataW H) → Bool := fun _ ds => decide (uptoBulkAll ds ≤ 1048576)
def OpenSpec.upto (s : _root_.Go.ChangeSpec) : _root_.Go.OpenSpec := { _root_.Go.OpenSpec.ofChange s with cond := some uptoSmall }

/-- 'laws.FnFaces', WHERE WHAT IT READS IS OF BULK AT MOST 1048576: true; the input reads as it did. -/
def fnFacesUptoRow : OpenClaim := { program := "ytihabnfccgjfbaa", sum := "17c299606ef1668d3616e561d37d71e9715a8c7e8744388931d492dc7195e75a", func := "loop.example/surfacemaps/laws.FnFaces", spec := "fnFaces", apart := false, narrowed := true }
def FnFacesUptoSaid : Prop := fnFacesUptoRow.holds Try.pinned (OpenSpec.upto fnFacesSpec)

/-- 'laws.FnFar', WHERE WHAT IT READS IS OF BULK AT MOST 1048576: true; the input reads as it did. -/
def fnFarUptoRow : OpenClaim := { program := "ytihabnfccgjfbaa", sum := "17c299606ef1668d3616e561d37d71e9715a8c7e8744388931d492dc7195e75a", func := "loop.example/surfacemaps/laws.FnFar", spec := "fnFar", unfollowed := true, recurses := true, apart := false, narrowed := true }
def FnFarUptoSaid : Prop := fnFarUptoRow.holds Try.pinned (OpenSpec.upto fnFarSpec)

/-- 'laws.FnDual', WHERE WHAT IT READS IS OF BULK AT MOST 1048576: true; the input reads as it did. -/
def fnDualUptoRow : OpenClaim := { program := "ytihabnfccgjfbaa", sum := "17c299606ef1668d3616e561d37d71e9715a8c7e8744388931d492dc7195e75a", func := "loop.example/surfacemaps/laws.FnDual", spec := "fnDual", apart := false, narrowed := true }
def FnDualUptoSaid : Prop := fnDualUptoRow.holds Try.pinned (OpenSpec.upto fnDualSpec)

/-- 'laws.FnGenus', WHERE WHAT IT READS IS OF BULK AT MOST 1048576: true; the input reads as it did. -/
def fnGenusUptoRow : OpenClaim := { program := "ytihabnfccgjfbaa", sum := "17c299606ef1668d3616e561d37d71e9715a8c7e8744388931d492dc7195e75a", func := "loop.example/surfacemaps/laws.FnGenus", spec := "fnGenus", apart := false, narrowed := true }
def FnGenusUptoSaid : Prop := fnGenusUptoRow.holds Try.pinned (OpenSpec.upto fnGenusSpec)

/-- 'laws.FnRename', WHERE WHAT IT READS IS OF BULK AT MOST 1048576: true; the input reads as it did. -/
def fnRenameUptoRow : OpenClaim := { program := "ytihabnfccgjfbaa", sum := "17c299606ef1668d3616e561d37d71e9715a8c7e8744388931d492dc7195e75a", func := "loop.example/surfacemaps/laws.FnRename", spec := "fnRename", apart := false, narrowed := true }
def FnRenameUptoSaid : Prop := fnRenameUptoRow.holds Try.pinned (OpenSpec.upto fnRenameSpec)

/-- 'laws.FnForm', WHERE WHAT IT READS IS OF BULK AT MOST 1048576: true; the input reads as it did. -/
def fnFormUptoRow : OpenClaim := { program := "ytihabnfccgjfbaa", sum := "17c299606ef1668d3616e561d37d71e9715a8c7e8744388931d492dc7195e75a", func := "loop.example/surfacemaps/laws.FnForm", spec := "fnForm", apart := false, narrowed := true }
def FnFormUptoSaid : Prop := fnFormUptoRow.holds Try.pinned (OpenSpec.upto fnFormSpec)

end Rows
end Go.Proofs.Ytihabnfccgjfbaa
