import Derived.Deep.Slices
import Derived.Deep.Fields
import Derived.ChangeSame
import Derived.OpenShut
import Derived.WalkKit
import Derived.ProofKit
import Derived.ShutString
import Derived.ChangeOld
import Derived.SizedLaws
import Derived.Test.YtigkcigoiinkpaaZAmB
set_option linter.unusedVariables false
set_option linter.unusedSimpArgs false
namespace Go.Proofs.Ytigkcigoiinkpaa.Am
open Go Go.RowKit Go.ChangeShapes Go.WideShapes Go.Deep
def RdC (w : World) (d : D) (cs : List Value) : Prop :=
  cs.length = d.cells.length ∧ (∀ u ∈ cs, u.oneCell' = true) ∧ ∀ (j : Nat) (x : D) (u : Value), d.cells[j]? = some x → cs[j]? = some u → Rd w (fun b => b < w.heap.size) x u
def Op (P : Program) (t : TypeId) (n : Nat) (Wf : D → Prop) : Prop :=
  P.cellsOf t = n ∧ 0 < n ∧ ∀ (H : Type) (enc : TypeId × Value → H) (w : World) (fuel : Nat) (cs : List Value) (x : DataW H × List MemPlace),
    DataW.trod enc P w 0 (fun _ => true) true fuel t cs = some x → ∃ d, d.cells.length = n ∧ RdC w d cs ∧ Wf d
theorem Op.imp {P : Program} {t : TypeId} {n : Nat} {Wf Wf' : D → Prop} (h : Op P t n Wf) (hw : ∀ d, Wf d → Wf' d) : Op P t n Wf' :=
  ⟨h.1, h.2.1, fun H enc w fuel cs x hx => let ⟨d, h1, h2, h3⟩ := h.2.2 H enc w fuel cs x hx; ⟨d, h1, h2, hw d h3⟩⟩
def wfI (d : D) : Prop := ∃ n : Int, d = .v (.int .i64 n) ∧ -9223372036854775808 ≤ n ∧ n < 9223372036854775808
theorem lit_i64 {x : Int} (h : (Lit.int .i64 x).wf = true) : -9223372036854775808 ≤ x ∧ x < 9223372036854775808 := by
  simp [Lit.wf, IntKind.min, IntKind.max, IntKind.bits, IntKind.signed] at h
  omega
def OpV (P : Program) (t : TypeId) (Wf : D → Prop) : Prop :=
  ∀ (H : Type) (enc : TypeId × Value → H) (w : World) (r : Reach) (b0 : Nat) (v : Value) (d : DataW H) (ps : List MemPlace), Value.okWide P w r b0 t v → DataW.Trod enc P w 0 (fun _ => true) true t v d ps → ∃ x, Rd w (fun b => b < w.heap.size) x v ∧ Wf x
theorem opv_i64 {P : Program} {t : TypeId} (hu : P.underlying t = some (.int .i64)) (hc : P.cellsOf t = 1) : OpV P t wfI := by
  intro H enc w r b0 v d ps hok ht
  obtain ⟨n, rfl, _, _, hw⟩ := open_int hu hok ht
  exact ⟨_, .v _, n, rfl, lit_i64 hw⟩
theorem law_calls {P : Program} {f : FuncId} {Sp : List D → Out → Prop} (h : Good P f Sp) {ds : List D} (hs : Sp ds ⟨.d (.v (.bool true)), []⟩) {args : Array Value} {w : World} (hl : args.size = ds.length) (hr : ∀ (i : Nat) (d : D) (y : Value), ds[i]? = some d → args[i]? = some y → Rd w (fun b => b < w.heap.size) d y) :
    Calls P f args w fun e w' => e = .returned (.bool true) ∧ Below w.heap.size w w' := by
  refine (h ds _ hs (fun _ => True) args w hl fun i d y h1 h2 => (hr i d y h1 h2).mono (fun _ _ => rfl) (fun b hb => ⟨trivial, hb⟩)).mono ?_
  rintro e w' ⟨y, rfl, φ, h1, h2⟩
  cases h2 with
  | d _ _ h2 => cases h2; exact ⟨rfl, h1.below⟩
end Go.Proofs.Ytigkcigoiinkpaa.Am
