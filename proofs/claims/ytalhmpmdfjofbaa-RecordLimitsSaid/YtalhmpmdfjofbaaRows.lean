/-
  No cell of these rows narrows 'for every input' (looked for: loops, veiled, ifaces, maps, wideKeys, modest, calm, conditions, laid).
  DERIVED. THE GIVEN ROWS OF THIS SEAT. 7 by the template 'for every input the law returns true; each argument reads behind the call as it read before'; 0 by the template 'total and deterministic' (their statements: YtalhmpmdfjofbaaTotals.lean).
  GIVEN WITH THE SEED: the statements are not yours to turn. If you find one false, say at which input.
  Laid BY PROGRAM, IN A SANDBOX (cutbox-rows.mjs): the forced cells as the released guide's own fill.sh prints them over the translation 58fc1c6f06e53e8d… (all of the seat's roots in one cut). By AI agents, Wed Nov 11 2026. No macro, syntax, notation, axiom, sorry.
-/
import Derived.Test.YtalhmpmdfjofbaaChecked
import GoSem.Claim
import GoSem.ClaimJoined
import GoSem.ClaimMapViews
import Derived.JoinedTies
import Derived.KernelRfl
namespace Go.Proofs.Ytalhmpmdfjofbaa
/- THE CELL 'sum', in the pinned program and in every row, IS THE sha256 OF THE DUMP (.gsa) THAT YtalhmpmdfjofbaaProg.lean LOADS. Nothing in Lean hashes anything: it is a label: what it is worth is what the hold of that sum in a sandbox is worth. -/
noncomputable def Try.pinned : Pinned := { name := "ytalhmpmdfjofbaa", sum := "58fc1c6f06e53e8d78c0198222540c3210d0a704be8912f5b4aa38fa56e3a16f", checked := Try.checked }
namespace Rows
def none {H : Type} : Left H := { results := [], args := [] }

/-- 'overdublaw16.RecordUnlike': WHATEVER THE INPUT: true; the input reads as it did. -/
def recordUnlikeSpec : ChangeSpec := { name := "recordUnlike", fn := fun _ => fun
  | [d1, d2, d3] => { results := [.lit (.bool true)], args := [d1, d2, d3] }
  | _ => none }
def recordUnlikeRow : OpenClaim := { program := "ytalhmpmdfjofbaa", sum := "58fc1c6f06e53e8d78c0198222540c3210d0a704be8912f5b4aa38fa56e3a16f", func := "overdub/overdublaw16.RecordUnlike", spec := "recordUnlike", apart := false }
def RecordUnlikeSaid : Prop := recordUnlikeRow.holds Try.pinned (OpenSpec.ofChange recordUnlikeSpec)

/-- ITS FALSE NEIGHBOUR: 'it returns false'. Refute it at one input. -/
def recordUnlikeWrong : ChangeSpec := { name := "recordUnlike", fn := fun _ => fun
  | [d1, d2, d3] => { results := [.lit (.bool false)], args := [d1, d2, d3] }
  | _ => none }
def RecordUnlikeWrongFalsely : Prop := recordUnlikeRow.holds Try.pinned (OpenSpec.ofChange recordUnlikeWrong)

/-- 'overdublaw16.RecordLimits': WHATEVER THE INPUT: true; the input reads as it did. -/
def recordLimitsSpec : ChangeSpec := { name := "recordLimits", fn := fun _ => fun
  | [d1, d2, d3] => { results := [.lit (.bool true)], args := [d1, d2, d3] }
  | _ => none }
def recordLimitsRow : OpenClaim := { program := "ytalhmpmdfjofbaa", sum := "58fc1c6f06e53e8d78c0198222540c3210d0a704be8912f5b4aa38fa56e3a16f", func := "overdub/overdublaw16.RecordLimits", spec := "recordLimits", apart := false }
def RecordLimitsSaid : Prop := recordLimitsRow.holds Try.pinned (OpenSpec.ofChange recordLimitsSpec)

/-- ITS FALSE NEIGHBOUR: 'it returns false'. Refute it at one input. -/
def recordLimitsWrong : ChangeSpec := { name := "recordLimits", fn := fun _ => fun
  | [d1, d2, d3] => { results := [.lit (.bool false)], args := [d1, d2, d3] }
  | _ => none }
def RecordLimitsWrongFalsely : Prop := recordLimitsRow.holds Try.pinned (OpenSpec.ofChange recordLimitsWrong)

/-- 'overdublaw16.RecordPacks': WHATEVER THE INPUT: true; the input reads as it did. -/
def recordPacksSpec : ChangeSpec := { name := "recordPacks", fn := fun _ => fun
  | [d1, d2, d3] => { results := [.lit (.bool true)], args := [d1, d2, d3] }
  | _ => none }
def recordPacksRow : OpenClaim := { program := "ytalhmpmdfjofbaa", sum := "58fc1c6f06e53e8d78c0198222540c3210d0a704be8912f5b4aa38fa56e3a16f", func := "overdub/overdublaw16.RecordPacks", spec := "recordPacks", apart := false }
def RecordPacksSaid : Prop := recordPacksRow.holds Try.pinned (OpenSpec.ofChange recordPacksSpec)

/-- ITS FALSE NEIGHBOUR: 'it returns false'. Refute it at one input. -/
def recordPacksWrong : ChangeSpec := { name := "recordPacks", fn := fun _ => fun
  | [d1, d2, d3] => { results := [.lit (.bool false)], args := [d1, d2, d3] }
  | _ => none }
def RecordPacksWrongFalsely : Prop := recordPacksRow.holds Try.pinned (OpenSpec.ofChange recordPacksWrong)

/-- 'overdublaw16.RecordExtents': WHATEVER THE INPUT: true; the input reads as it did. -/
def recordExtentsSpec : ChangeSpec := { name := "recordExtents", fn := fun _ => fun
  | [d1, d2] => { results := [.lit (.bool true)], args := [d1, d2] }
  | _ => none }
def recordExtentsRow : OpenClaim := { program := "ytalhmpmdfjofbaa", sum := "58fc1c6f06e53e8d78c0198222540c3210d0a704be8912f5b4aa38fa56e3a16f", func := "overdub/overdublaw16.RecordExtents", spec := "recordExtents", apart := false }
def RecordExtentsSaid : Prop := recordExtentsRow.holds Try.pinned (OpenSpec.ofChange recordExtentsSpec)

/-- ITS FALSE NEIGHBOUR: 'it returns false'. Refute it at one input. -/
def recordExtentsWrong : ChangeSpec := { name := "recordExtents", fn := fun _ => fun
  | [d1, d2] => { results := [.lit (.bool false)], args := [d1, d2] }
  | _ => none }
def RecordExtentsWrongFalsely : Prop := recordExtentsRow.holds Try.pinned (OpenSpec.ofChange recordExtentsWrong)

/-- 'overdublaw16.RecordLong': WHATEVER THE INPUT: true; the input reads as it did. -/
def recordLongSpec : ChangeSpec := { name := "recordLong", fn := fun _ => fun
  | [d1, d2] => { results := [.lit (.bool true)], args := [d1, d2] }
  | _ => none }
def recordLongRow : OpenClaim := { program := "ytalhmpmdfjofbaa", sum := "58fc1c6f06e53e8d78c0198222540c3210d0a704be8912f5b4aa38fa56e3a16f", func := "overdub/overdublaw16.RecordLong", spec := "recordLong", apart := false }
def RecordLongSaid : Prop := recordLongRow.holds Try.pinned (OpenSpec.ofChange recordLongSpec)

/-- ITS FALSE NEIGHBOUR: 'it returns false'. Refute it at one input. -/
def recordLongWrong : ChangeSpec := { name := "recordLong", fn := fun _ => fun
  | [d1, d2] => { results := [.lit (.bool false)], args := [d1, d2] }
  | _ => none }
def RecordLongWrongFalsely : Prop := recordLongRow.holds Try.pinned (OpenSpec.ofChange recordLongWrong)

/-- 'overdublaw16.RecordReads': WHATEVER THE INPUT: true; the input reads as it did. -/
def recordReadsSpec : ChangeSpec := { name := "recordReads", fn := fun _ => fun
  | [d1, d2, d3, d4, d5, d6, d7] => { results := [.lit (.bool true)], args := [d1, d2, d3, d4, d5, d6, d7] }
  | _ => none }
def recordReadsRow : OpenClaim := { program := "ytalhmpmdfjofbaa", sum := "58fc1c6f06e53e8d78c0198222540c3210d0a704be8912f5b4aa38fa56e3a16f", func := "overdub/overdublaw16.RecordReads", spec := "recordReads", apart := false }
def RecordReadsSaid : Prop := recordReadsRow.holds Try.pinned (OpenSpec.ofChange recordReadsSpec)

/-- ITS FALSE NEIGHBOUR: 'it returns false'. Refute it at one input. -/
def recordReadsWrong : ChangeSpec := { name := "recordReads", fn := fun _ => fun
  | [d1, d2, d3, d4, d5, d6, d7] => { results := [.lit (.bool false)], args := [d1, d2, d3, d4, d5, d6, d7] }
  | _ => none }
def RecordReadsWrongFalsely : Prop := recordReadsRow.holds Try.pinned (OpenSpec.ofChange recordReadsWrong)

/-- 'overdublaw16.RecordBack': WHATEVER THE INPUT: true; the input reads as it did. -/
def recordBackSpec : ChangeSpec := { name := "recordBack", fn := fun _ => fun
  | [d] => { results := [.lit (.bool true)], args := [d] }
  | _ => none }
def recordBackRow : OpenClaim := { program := "ytalhmpmdfjofbaa", sum := "58fc1c6f06e53e8d78c0198222540c3210d0a704be8912f5b4aa38fa56e3a16f", func := "overdub/overdublaw16.RecordBack", spec := "recordBack", apart := false }
def RecordBackSaid : Prop := recordBackRow.holds Try.pinned (OpenSpec.ofChange recordBackSpec)

/-- ITS FALSE NEIGHBOUR: 'it returns false'. Refute it at one input. -/
def recordBackWrong : ChangeSpec := { name := "recordBack", fn := fun _ => fun
  | [d] => { results := [.lit (.bool false)], args := [d] }
  | _ => none }
def RecordBackWrongFalsely : Prop := recordBackRow.holds Try.pinned (OpenSpec.ofChange recordBackWrong)

/- THE SECOND FORM. 'bulk': how many values and letters a reading holds, each counted each time it is reached (what is shared counts as often as it is met; a slice's spare places count too). A statement '..UptoSaid' is the law's where the arguments, and the package variables that the reading takes, are together of bulk at most 1048576: NARROWER than '..Said'. Prove '..Said' where nothing that the law and all that it calls make is longer than what came in: it says more and counts as full. Else prove '..UptoSaid'. A law counts once. -/
mutual
def uptoBulk {H : Type} : DataW H → Nat
  | .lit (.string bytes) => bytes.length + 1
  | .lit _ => 1
  | .nil => 1
  | .ptr d => uptoBulk d + 1
  | .slice elems spare => uptoBulkAll elems + uptoBulkAll spare + 1
  | .agg parts => uptoBulkAll parts + 1
  | .iface _ d => uptoBulk d + 1
  | .map entries => uptoBulkEntries entries + 1
  | .held _ => 1
def uptoBulkAll {H : Type} : List (DataW H) → Nat
  | [] => 0
  | d :: r => uptoBulk d + uptoBulkAll r
def uptoBulkEntries {H : Type} : List (Lit × DataW H) → Nat
  | [] => 0
  | x :: r => uptoBulkEntry x + uptoBulkEntries r
def uptoBulkEntry {H : Type} : Lit × DataW H → Nat
  | (.string bytes, d) => bytes.length + uptoBulk d + 1
  | (_, d) => uptoBulk d + 1
 end
def uptoSmall : (H : Type) → List (DataW H) → Bool := fun _ ds => decide (uptoBulkAll ds ≤ 1048576)
def OpenSpec.upto (s : _root_.Go.ChangeSpec) : _root_.Go.OpenSpec := { _root_.Go.OpenSpec.ofChange s with cond := some uptoSmall }

/-- 'overdublaw16.RecordUnlike', WHERE WHAT IT READS IS OF BULK AT MOST 1048576: true; the input reads as it did. -/
def recordUnlikeUptoRow : OpenClaim := { program := "ytalhmpmdfjofbaa", sum := "58fc1c6f06e53e8d78c0198222540c3210d0a704be8912f5b4aa38fa56e3a16f", func := "overdub/overdublaw16.RecordUnlike", spec := "recordUnlike", apart := false, narrowed := true }
def RecordUnlikeUptoSaid : Prop := recordUnlikeUptoRow.holds Try.pinned (OpenSpec.upto recordUnlikeSpec)

/-- 'overdublaw16.RecordLimits', WHERE WHAT IT READS IS OF BULK AT MOST 1048576: true; the input reads as it did. -/
def recordLimitsUptoRow : OpenClaim := { program := "ytalhmpmdfjofbaa", sum := "58fc1c6f06e53e8d78c0198222540c3210d0a704be8912f5b4aa38fa56e3a16f", func := "overdub/overdublaw16.RecordLimits", spec := "recordLimits", apart := false, narrowed := true }
def RecordLimitsUptoSaid : Prop := recordLimitsUptoRow.holds Try.pinned (OpenSpec.upto recordLimitsSpec)

/-- 'overdublaw16.RecordPacks', WHERE WHAT IT READS IS OF BULK AT MOST 1048576: true; the input reads as it did. -/
def recordPacksUptoRow : OpenClaim := { program := "ytalhmpmdfjofbaa", sum := "58fc1c6f06e53e8d78c0198222540c3210d0a704be8912f5b4aa38fa56e3a16f", func := "overdub/overdublaw16.RecordPacks", spec := "recordPacks", apart := false, narrowed := true }
def RecordPacksUptoSaid : Prop := recordPacksUptoRow.holds Try.pinned (OpenSpec.upto recordPacksSpec)

/-- 'overdublaw16.RecordExtents', WHERE WHAT IT READS IS OF BULK AT MOST 1048576: true; the input reads as it did. -/
def recordExtentsUptoRow : OpenClaim := { program := "ytalhmpmdfjofbaa", sum := "58fc1c6f06e53e8d78c0198222540c3210d0a704be8912f5b4aa38fa56e3a16f", func := "overdub/overdublaw16.RecordExtents", spec := "recordExtents", apart := false, narrowed := true }
def RecordExtentsUptoSaid : Prop := recordExtentsUptoRow.holds Try.pinned (OpenSpec.upto recordExtentsSpec)

/-- 'overdublaw16.RecordLong', WHERE WHAT IT READS IS OF BULK AT MOST 1048576: true; the input reads as it did. -/
def recordLongUptoRow : OpenClaim := { program := "ytalhmpmdfjofbaa", sum := "58fc1c6f06e53e8d78c0198222540c3210d0a704be8912f5b4aa38fa56e3a16f", func := "overdub/overdublaw16.RecordLong", spec := "recordLong", apart := false, narrowed := true }
def RecordLongUptoSaid : Prop := recordLongUptoRow.holds Try.pinned (OpenSpec.upto recordLongSpec)

/-- 'overdublaw16.RecordReads', WHERE WHAT IT READS IS OF BULK AT MOST 1048576: true; the input reads as it did. -/
def recordReadsUptoRow : OpenClaim := { program := "ytalhmpmdfjofbaa", sum := "58fc1c6f06e53e8d78c0198222540c3210d0a704be8912f5b4aa38fa56e3a16f", func := "overdub/overdublaw16.RecordReads", spec := "recordReads", apart := false, narrowed := true }
def RecordReadsUptoSaid : Prop := recordReadsUptoRow.holds Try.pinned (OpenSpec.upto recordReadsSpec)

/-- 'overdublaw16.RecordBack', WHERE WHAT IT READS IS OF BULK AT MOST 1048576: true; the input reads as it did. -/
def recordBackUptoRow : OpenClaim := { program := "ytalhmpmdfjofbaa", sum := "58fc1c6f06e53e8d78c0198222540c3210d0a704be8912f5b4aa38fa56e3a16f", func := "overdub/overdublaw16.RecordBack", spec := "recordBack", apart := false, narrowed := true }
def RecordBackUptoSaid : Prop := recordBackUptoRow.holds Try.pinned (OpenSpec.upto recordBackSpec)

end Rows
end Go.Proofs.Ytalhmpmdfjofbaa
