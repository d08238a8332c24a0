/- Contracts: a record of bytes. -/
import Derived.Test.YtgobcnepjofddaaH2
import Derived.Test.YtgobcnepjofddaaF5
import Derived.Test.YtgobcnepjofddaaG3
set_option linter.unusedVariables false
set_option linter.unusedSimpArgs false
set_option maxRecDepth 10000
set_option maxHeartbeats 0
namespace Go.Proofs.Ytgobcnepjofddaa.Am
open Go Go.RowKit Go.Proofs

def hdK (b : List Int) : Int := leV (b.take 1)
def hdT (b : List Int) : Int := leV ((b.drop 1).take 1)
def hdA (b : List Int) : Int := leV ((b.drop 2).take 2)
def hdB (b : List Int) : Int := leV ((b.drop 4).take 2)
def hdN (b : List Int) : Int := leV ((b.drop 6).take 2)
def unL (b : List Int) : List Xt := takeE (b.drop 8) (hdN b).toNat
def unOk (b : List Int) : Bool := decide (8 ≤ b.length ∧ (b.length : Int) - 8 = 7 * hdN b) && validR (hdK b) (hdT b) (hdA b) (hdB b) (unL b)
def unOut (b : List Int) : Out :=
  if unOk b = true then ⟨.tup [.agg [.d (.v (.int .i64 (hdK b))), .d (.v (.int .i64 (hdT b))), .d (.v (.int .i64 (hdA b))), .d (.v (.int .i64 (hdB b))), .sl 0 5 0 (unL b).length true], .d (.v (.bool true))], [(0, .row 27 5 ((unL b).map eD))]⟩
  else ⟨.tup [.agg [.d (.v (.int .i64 0)), .d (.v (.int .i64 0)), .d (.v (.int .i64 0)), .d (.v (.int .i64 0)), .nil], .d (.v (.bool false))], []⟩
theorem pack_unpack {b : List Int} (hb : Byt b) (h8 : 8 ≤ b.length) (hn : (b.length : Int) - 8 = 7 * hdN b) : packR (hdK b) (hdT b) (hdA b) (hdB b) (unL b) = b := by
  have h0 : 0 ≤ hdN b := (leV_bound (byt_take (byt_drop hb 6) 2)).1
  have hl : (unL b).length = (hdN b).toNat := takeE_length _ _
  have hx : exsB (unL b) = b.drop 8 := exsB_takeE _ _ (byt_drop hb 8) (by rw [List.length_drop]; omega)
  unfold packR
  rw [hx, hl, show (((hdN b).toNat : Nat) : Int) = hdN b by omega]
  unfold hdK hdT hdA hdB hdN
  simp only [max_leV hb, max_leV (byt_drop hb _)]
  rw [leB_leV_take hb (by omega), leB_leV_take (byt_drop hb 1) (by simp; omega), leB_leV_take (byt_drop hb 2) (by simp; omega), leB_leV_take (byt_drop hb 4) (by simp; omega), leB_leV_take (byt_drop hb 6) (by simp; omega)]
  have s6 : (b.drop 6).take 2 ++ b.drop 8 = b.drop 6 := by rw [show b.drop 8 = (b.drop 6).drop 2 by rw [List.drop_drop]]; exact List.take_append_drop 2 _
  have s4 : (b.drop 4).take 2 ++ b.drop 6 = b.drop 4 := by rw [show b.drop 6 = (b.drop 4).drop 2 by rw [List.drop_drop]]; exact List.take_append_drop 2 _
  have s2 : (b.drop 2).take 2 ++ b.drop 4 = b.drop 2 := by rw [show b.drop 4 = (b.drop 2).drop 2 by rw [List.drop_drop]]; exact List.take_append_drop 2 _
  have s1 : (b.drop 1).take 1 ++ b.drop 2 = b.drop 1 := by rw [show b.drop 2 = (b.drop 1).drop 1 by rw [List.drop_drop]]; exact List.take_append_drop 1 _
  rw [s6, s4, s2, s1]
  exact List.take_append_drop 1 b
theorem lenI (l : List Int) : (l.map mB).length = l.length := List.length_map ..
noncomputable def H2 : Env := ⟨Try.prog, fun f ds out => (f = 8 ∧ Sp_record_Pack ds out), Es⟩
theorem H2_sp : ∀ f ds out, H2.Sp f ds out → Ent H2.P f ∧ Good H2.P f (fun a b => a = ds ∧ b = out) := by
  rintro f ds out ⟨rfl, h⟩
  exact ⟨ent_record_Pack, good_record_Pack.one h⟩
theorem H2_ok : H2.Ok := ⟨H2_sp, Es_ok⟩
end Go.Proofs.Ytgobcnepjofddaa.Am
