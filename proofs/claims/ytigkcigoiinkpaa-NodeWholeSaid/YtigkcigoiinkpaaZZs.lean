import Derived.Test.YtigkcigoiinkpaaZZq
import Derived.Test.YtigkcigoiinkpaaZZm
set_option linter.unusedVariables false
namespace Go.Proofs.Ytigkcigoiinkpaa.Am
open Go Go.RowKit Go.Proofs
def bd (f : Func) : Code := f.body.getD .skip
def sub : List Nat → Code → Code
  | [], c => c
  | 0 :: p, .seq x _ => sub p x
  | _ :: p, .seq _ y => sub p y
  | 0 :: p, .cond _ x _ => sub p x
  | _ :: p, .cond _ _ y => sub p y
  | _ :: p, .block _ c => sub p c
  | _ :: p, .loop c => sub p c
  | _, c => c
section
variable {P : Program} {x y : Code} {st st' : St} {Q : Exit → St → Prop}
theorem AW.part {next : St → Prop} {ι : Type} (S : ι → St) (G : ι → Prop) (st' : St) (hw : ∃ ρ, Wk ρ st st') (h : AW P x st' (thenA (midxN S G) Q)) (h2 : ∀ i, G i → ∀ s, midN (S i) s → next s) : AW P x st (thenA next Q) := by
  obtain ⟨ρ, hw⟩ := hw
  refine AW.weak (h.mono fun e s k => ?_) fun w0 oa a w hs => hw.sr hs
  refine ⟨?_⟩
  have k := k.h
  cases e with
  | normal => obtain ⟨i, hg, h⟩ := k.h; exact h2 i hg s ⟨h⟩
  | _ => exact k
end
end Go.Proofs.Ytigkcigoiinkpaa.Am
