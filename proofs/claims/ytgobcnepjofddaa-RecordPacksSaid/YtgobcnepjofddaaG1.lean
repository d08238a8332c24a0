/- Contracts: a number of bytes. -/
import Derived.Test.YtgobcnepjofddaaF1
set_option linter.unusedVariables false
set_option linter.unusedSimpArgs false
set_option maxRecDepth 10000
set_option maxHeartbeats 0
namespace Go.Proofs.Ytgobcnepjofddaa.Am
open Go Go.RowKit Go.Proofs

theorem getD_byt {l : List Int} (h : Byt l) (i : Nat) : 0 ≤ l.getD i 0 ∧ l.getD i 0 < 256 := by
  rw [List.getD_eq_getElem?_getD]
  by_cases hi : i < l.length
  · rw [List.getElem?_eq_getElem hi]; exact h _ (List.getElem_mem hi)
  · rw [List.getElem?_eq_none (by omega)]; exact ⟨by decide, by decide⟩
def getOut (l : List Int) : Out := if 7 < l.length then ⟨.tup [.d (.v (.int .i64 0)), .d (.v (.bool false))], []⟩ else ⟨.tup [.d (.v (.int .i64 (leV l))), .d (.v (.bool true))], []⟩
end Go.Proofs.Ytgobcnepjofddaa.Am
