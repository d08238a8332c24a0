/-
  No cell of these rows narrows 'for every input' (looked for: loops, veiled, ifaces, maps, wideKeys, modest, calm, conditions, laid).
  DERIVED. THE GIVEN ROWS OF THIS SEAT. 6 by the template 'for every input the law returns true; each argument reads behind the call as it read before'; 0 by the template 'total and deterministic' (their statements: YtgijagbneapcfaaTotals.lean).
  GIVEN WITH THE SEED: the statements are not yours to turn. If you find one false, say at which input.
  Laid BY PROGRAM, IN A SANDBOX (cutbox-rows.mjs): the forced cells as the released guide's own fill.sh prints them over the translation 8cf323d045329755… (all of the seat's roots in one cut). By AI agents, Wed Nov 11 2026. No macro, syntax, notation, axiom, sorry.
-/
import Derived.Test.YtgijagbneapcfaaChecked
import GoSem.Claim
import GoSem.ClaimJoined
import GoSem.ClaimMapViews
import Derived.JoinedTies
import Derived.KernelRfl
namespace Go.Proofs.Ytgijagbneapcfaa
/- THE CELL 'sum', in the pinned program and in every row, IS THE sha256 OF THE DUMP (.gsa) THAT YtgijagbneapcfaaProg.lean LOADS. Nothing in Lean hashes anything: it is a label: what it is worth is what the hold of that sum in a sandbox is worth. -/
noncomputable def Try.pinned : Pinned := { name := "ytgijagbneapcfaa", sum := "8cf323d045329755e0f7a252e61d0c62645cc9703a6d4ed71a2212aacdd19c40", checked := Try.checked }
namespace Rows
def none {H : Type} : Left H := { results := [], args := [] }

/-- 'overdublaw04.FieldOrder': WHATEVER THE INPUT: true; the input reads as it did. -/
def fieldOrderSpec : ChangeSpec := { name := "fieldOrder", fn := fun _ => fun
  | [d1, d2, d3] => { results := [.lit (.bool true)], args := [d1, d2, d3] }
  | _ => none }
def fieldOrderRow : OpenClaim := { program := "ytgijagbneapcfaa", sum := "8cf323d045329755e0f7a252e61d0c62645cc9703a6d4ed71a2212aacdd19c40", func := "overdub/overdublaw04.FieldOrder", spec := "fieldOrder", apart := false }
def FieldOrderSaid : Prop := fieldOrderRow.holds Try.pinned (OpenSpec.ofChange fieldOrderSpec)

/-- ITS FALSE NEIGHBOUR: 'it returns false'. Refute it at one input. -/
def fieldOrderWrong : ChangeSpec := { name := "fieldOrder", fn := fun _ => fun
  | [d1, d2, d3] => { results := [.lit (.bool false)], args := [d1, d2, d3] }
  | _ => none }
def FieldOrderWrongFalsely : Prop := fieldOrderRow.holds Try.pinned (OpenSpec.ofChange fieldOrderWrong)

/-- 'overdublaw04.FieldBytes': WHATEVER THE INPUT: true; the input reads as it did. -/
def fieldBytesSpec : ChangeSpec := { name := "fieldBytes", fn := fun _ => fun
  | [d1, d2] => { results := [.lit (.bool true)], args := [d1, d2] }
  | _ => none }
def fieldBytesRow : OpenClaim := { program := "ytgijagbneapcfaa", sum := "8cf323d045329755e0f7a252e61d0c62645cc9703a6d4ed71a2212aacdd19c40", func := "overdub/overdublaw04.FieldBytes", spec := "fieldBytes", apart := false }
def FieldBytesSaid : Prop := fieldBytesRow.holds Try.pinned (OpenSpec.ofChange fieldBytesSpec)

/-- ITS FALSE NEIGHBOUR: 'it returns false'. Refute it at one input. -/
def fieldBytesWrong : ChangeSpec := { name := "fieldBytes", fn := fun _ => fun
  | [d1, d2] => { results := [.lit (.bool false)], args := [d1, d2] }
  | _ => none }
def FieldBytesWrongFalsely : Prop := fieldBytesRow.holds Try.pinned (OpenSpec.ofChange fieldBytesWrong)

/-- 'overdublaw04.FieldPuts': WHATEVER THE INPUT: true; the input reads as it did. -/
def fieldPutsSpec : ChangeSpec := { name := "fieldPuts", fn := fun _ => fun
  | [d1, d2, d3] => { results := [.lit (.bool true)], args := [d1, d2, d3] }
  | _ => none }
def fieldPutsRow : OpenClaim := { program := "ytgijagbneapcfaa", sum := "8cf323d045329755e0f7a252e61d0c62645cc9703a6d4ed71a2212aacdd19c40", func := "overdub/overdublaw04.FieldPuts", spec := "fieldPuts", apart := false }
def FieldPutsSaid : Prop := fieldPutsRow.holds Try.pinned (OpenSpec.ofChange fieldPutsSpec)

/-- ITS FALSE NEIGHBOUR: 'it returns false'. Refute it at one input. -/
def fieldPutsWrong : ChangeSpec := { name := "fieldPuts", fn := fun _ => fun
  | [d1, d2, d3] => { results := [.lit (.bool false)], args := [d1, d2, d3] }
  | _ => none }
def FieldPutsWrongFalsely : Prop := fieldPutsRow.holds Try.pinned (OpenSpec.ofChange fieldPutsWrong)

/-- 'overdublaw04.FieldShort': WHATEVER THE INPUT: true; the input reads as it did. -/
def fieldShortSpec : ChangeSpec := { name := "fieldShort", fn := fun _ => fun
  | [d1, d2, d3] => { results := [.lit (.bool true)], args := [d1, d2, d3] }
  | _ => none }
def fieldShortRow : OpenClaim := { program := "ytgijagbneapcfaa", sum := "8cf323d045329755e0f7a252e61d0c62645cc9703a6d4ed71a2212aacdd19c40", func := "overdub/overdublaw04.FieldShort", spec := "fieldShort", apart := false }
def FieldShortSaid : Prop := fieldShortRow.holds Try.pinned (OpenSpec.ofChange fieldShortSpec)

/-- ITS FALSE NEIGHBOUR: 'it returns false'. Refute it at one input. -/
def fieldShortWrong : ChangeSpec := { name := "fieldShort", fn := fun _ => fun
  | [d1, d2, d3] => { results := [.lit (.bool false)], args := [d1, d2, d3] }
  | _ => none }
def FieldShortWrongFalsely : Prop := fieldShortRow.holds Try.pinned (OpenSpec.ofChange fieldShortWrong)

/-- 'overdublaw04.FieldTakes': WHATEVER THE INPUT: true; the input reads as it did. -/
def fieldTakesSpec : ChangeSpec := { name := "fieldTakes", fn := fun _ => fun
  | [d1, d2, d3] => { results := [.lit (.bool true)], args := [d1, d2, d3] }
  | _ => none }
def fieldTakesRow : OpenClaim := { program := "ytgijagbneapcfaa", sum := "8cf323d045329755e0f7a252e61d0c62645cc9703a6d4ed71a2212aacdd19c40", func := "overdub/overdublaw04.FieldTakes", spec := "fieldTakes", apart := false }
def FieldTakesSaid : Prop := fieldTakesRow.holds Try.pinned (OpenSpec.ofChange fieldTakesSpec)

/-- ITS FALSE NEIGHBOUR: 'it returns false'. Refute it at one input. -/
def fieldTakesWrong : ChangeSpec := { name := "fieldTakes", fn := fun _ => fun
  | [d1, d2, d3] => { results := [.lit (.bool false)], args := [d1, d2, d3] }
  | _ => none }
def FieldTakesWrongFalsely : Prop := fieldTakesRow.holds Try.pinned (OpenSpec.ofChange fieldTakesWrong)

/-- 'overdublaw04.FieldBack': WHATEVER THE INPUT: true; the input reads as it did. -/
def fieldBackSpec : ChangeSpec := { name := "fieldBack", fn := fun _ => fun
  | [d1, d2] => { results := [.lit (.bool true)], args := [d1, d2] }
  | _ => none }
def fieldBackRow : OpenClaim := { program := "ytgijagbneapcfaa", sum := "8cf323d045329755e0f7a252e61d0c62645cc9703a6d4ed71a2212aacdd19c40", func := "overdub/overdublaw04.FieldBack", spec := "fieldBack", apart := false }
def FieldBackSaid : Prop := fieldBackRow.holds Try.pinned (OpenSpec.ofChange fieldBackSpec)

/-- ITS FALSE NEIGHBOUR: 'it returns false'. Refute it at one input. -/
def fieldBackWrong : ChangeSpec := { name := "fieldBack", fn := fun _ => fun
  | [d1, d2] => { results := [.lit (.bool false)], args := [d1, d2] }
  | _ => none }
def FieldBackWrongFalsely : Prop := fieldBackRow.holds Try.pinned (OpenSpec.ofChange fieldBackWrong)

/- THE SECOND FORM. 'bulk': how many values and letters a reading holds, each counted each time it is reached (what is shared counts as often as it is met; a slice's spare places count too). A statement '..UptoSaid' is the law's where the arguments, and the package variables that the reading takes, are together of bulk at most 1048576: NARROWER than '..Said'. Prove '..Said' where nothing that the law and all that it calls make is longer than what came in: it says more and counts as full. Else prove '..UptoSaid'. A law counts once. -/
mutual
def uptoBulk {H : Type} : DataW H → Nat
  | .lit (.string bytes) => bytes.length + 1
  | .lit _ => 1
  | .nil => 1
  | .ptr d => uptoBulk d + 1
  | .slice elems spare => uptoBulkAll elems + uptoBulkAll spare + 1
  | .agg parts => uptoBulkAll parts + 1
  | .iface _ d => uptoBulk d + 1
  | .map entries => uptoBulkEntries entries + 1
  | .held _ => 1
def uptoBulkAll {H : Type} : List (DataW H) → Nat
  | [] => 0
  | d :: r => uptoBulk d + uptoBulkAll r
def uptoBulkEntries {H : Type} : List (Lit × DataW H) → Nat
  | [] => 0
  | x :: r => uptoBulkEntry x + uptoBulkEntries r
def uptoBulkEntry {H : Type} : Lit × DataW H → Nat
  | (.string bytes, d) => bytes.length + uptoBulk d + 1
  | (_, d) => uptoBulk d + 1
 end
def uptoSmall : (H : Type) → List (DataW H) → Bool := fun _ ds => decide (uptoBulkAll ds ≤ 1048576)
def OpenSpec.upto (s : _root_.Go.ChangeSpec) : _root_.Go.OpenSpec := { _root_.Go.OpenSpec.ofChange s with cond := some uptoSmall }

/-- 'overdublaw04.FieldOrder', WHERE WHAT IT READS IS OF BULK AT MOST 1048576: true; the input reads as it did. -/
def fieldOrderUptoRow : OpenClaim := { program := "ytgijagbneapcfaa", sum := "8cf323d045329755e0f7a252e61d0c62645cc9703a6d4ed71a2212aacdd19c40", func := "overdub/overdublaw04.FieldOrder", spec := "fieldOrder", apart := false, narrowed := true }
def FieldOrderUptoSaid : Prop := fieldOrderUptoRow.holds Try.pinned (OpenSpec.upto fieldOrderSpec)

/-- 'overdublaw04.FieldBytes', WHERE WHAT IT READS IS OF BULK AT MOST 1048576: true; the input reads as it did. -/
def fieldBytesUptoRow : OpenClaim := { program := "ytgijagbneapcfaa", sum := "8cf323d045329755e0f7a252e61d0c62645cc9703a6d4ed71a2212aacdd19c40", func := "overdub/overdublaw04.FieldBytes", spec := "fieldBytes", apart := false, narrowed := true }
def FieldBytesUptoSaid : Prop := fieldBytesUptoRow.holds Try.pinned (OpenSpec.upto fieldBytesSpec)

/-- 'overdublaw04.FieldPuts', WHERE WHAT IT READS IS OF BULK AT MOST 1048576: true; the input reads as it did. -/
def fieldPutsUptoRow : OpenClaim := { program := "ytgijagbneapcfaa", sum := "8cf323d045329755e0f7a252e61d0c62645cc9703a6d4ed71a2212aacdd19c40", func := "overdub/overdublaw04.FieldPuts", spec := "fieldPuts", apart := false, narrowed := true }
def FieldPutsUptoSaid : Prop := fieldPutsUptoRow.holds Try.pinned (OpenSpec.upto fieldPutsSpec)

/-- 'overdublaw04.FieldShort', WHERE WHAT IT READS IS OF BULK AT MOST 1048576: true; the input reads as it did. -/
def fieldShortUptoRow : OpenClaim := { program := "ytgijagbneapcfaa", sum := "8cf323d045329755e0f7a252e61d0c62645cc9703a6d4ed71a2212aacdd19c40", func := "overdub/overdublaw04.FieldShort", spec := "fieldShort", apart := false, narrowed := true }
def FieldShortUptoSaid : Prop := fieldShortUptoRow.holds Try.pinned (OpenSpec.upto fieldShortSpec)

/-- 'overdublaw04.FieldTakes', WHERE WHAT IT READS IS OF BULK AT MOST 1048576: true; the input reads as it did. -/
def fieldTakesUptoRow : OpenClaim := { program := "ytgijagbneapcfaa", sum := "8cf323d045329755e0f7a252e61d0c62645cc9703a6d4ed71a2212aacdd19c40", func := "overdub/overdublaw04.FieldTakes", spec := "fieldTakes", apart := false, narrowed := true }
def FieldTakesUptoSaid : Prop := fieldTakesUptoRow.holds Try.pinned (OpenSpec.upto fieldTakesSpec)

/-- 'overdublaw04.FieldBack', WHERE WHAT IT READS IS OF BULK AT MOST 1048576: true; the input reads as it did. -/
def fieldBackUptoRow : OpenClaim := { program := "ytgijagbneapcfaa", sum := "8cf323d045329755e0f7a252e61d0c62645cc9703a6d4ed71a2212aacdd19c40", func := "overdub/overdublaw04.FieldBack", spec := "fieldBack", apart := false, narrowed := true }
def FieldBackUptoSaid : Prop := fieldBackUptoRow.holds Try.pinned (OpenSpec.upto fieldBackSpec)

end Rows
end Go.Proofs.Ytgijagbneapcfaa
