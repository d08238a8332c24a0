/- Contracts: records compared; rows cut and copied; bytes compared. -/
import Derived.Test.YtjgmdcjpipodoaaH1
set_option linter.unusedVariables false
set_option linter.unusedSimpArgs false
set_option maxRecDepth 10000
set_option maxHeartbeats 0
namespace Go.Proofs.Ytjgmdcjpipodoaa.Am
open Go Go.RowKit Go.Proofs

noncomputable def H1 : Env := ⟨Try.prog, fun f ds out => (f = 7 ∧ Sp_overdubkeep_Same_api_Extent ds out), Es⟩
theorem H1_sp : ∀ f ds out, H1.Sp f ds out → Ent H1.P f ∧ Good H1.P f (fun a b => a = ds ∧ b = out) := by
  rintro f ds out ⟨rfl, h⟩
  exact ⟨ent_overdubkeep_Same_api_Extent, good_overdubkeep_Same_api_Extent.one h⟩
theorem H1_ok : H1.Ok := ⟨H1_sp, Es_ok⟩
def sameR (k t a b : Int) (l : List Xt) (k' t' a' b' : Int) (l' : List Xt) : Bool := decide (k = k' ∧ t = t' ∧ a = a' ∧ b = b' ∧ l = l')
def rD (k t a b : Int) (l : List Xt) : D := .agg [.v (.int .i64 k), .v (.int .i64 t), .v (.int .i64 a), .v (.int .i64 b), .list (l.map eD)]
theorem take_min {α : Type} (l : List α) (n : Int) : l.take (min (l.length : Int) n).toNat = l.take n.toNat := by
  by_cases h : (l.length : Int) ≤ n
  · rw [show (min (l.length : Int) n).toNat = l.length by omega, List.take_length, List.take_of_length_le (by omega)]
  · rw [show (min (l.length : Int) n).toNat = n.toNat by omega]
theorem map_take' {α β : Type} (f : α → β) (l : List α) (n : Nat) : (l.map f).take n = (l.take n).map f := List.map_take.symm
theorem map_drop' {α β : Type} (f : α → β) (l : List α) (n : Nat) : (l.map f).drop n = (l.drop n).map f := List.map_drop.symm
end Go.Proofs.Ytjgmdcjpipodoaa.Am
