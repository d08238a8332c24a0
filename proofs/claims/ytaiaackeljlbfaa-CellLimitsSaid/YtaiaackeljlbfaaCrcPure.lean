/- The sum's digits, in plain numbers: eight digits at once, and what the printed functions of it come to. -/
import Derived.Test.YtaiaackeljlbfaaQCx0
import Derived.Test.YtaiaackeljlbfaaQCx1
import Derived.Test.YtaiaackeljlbfaaMath
namespace Go.Proofs.Ytaiaackeljlbfaa.QC
open Go.RowKit Go.Proofs.YtaiaackeljlbfaaW.PrintWords Go.Proofs.YtaiaackeljlbfaaW.PrintLast Go.Proofs.YtaiaackeljlbfaaW.PrintMore Go.Proofs.Ytaiaackeljlbfaa.Mth
set_option linter.unusedVariables false
set_option linter.unusedSimpArgs false

/-- One digit of a sum. -/
def crcOne (s : Int) : Int := if s / 2147483648 = 1 then Go.bits .xor .u32 ((s * 2) % 4294967296) 79764919 else (s * 2) % 4294967296
def crcOnes : Nat → Int → Int
  | 0, s => s
  | n + 1, s => crcOnes n (crcOne s)
/-- What a byte does, standing at the front of a sum. -/
def crcTab (i : Int) : Int := crcOnes 8 ((i * 16777216) % 4294967296)
/-- More bytes, by the table. -/
def crcAdd : Int → List Int → Int
  | s, [] => s
  | s, c :: l => crcAdd (Go.bits .xor .u32 ((s * 256) % 4294967296) (crcTab (Go.bits .xor .u8 ((s / 16777216) % 256) c))) l
def crcSum (l : List Int) : Int := crcAdd 4294967295 l
def sumB (l : List Int) : List Int := [crcSum l / 16777216 % 256, crcSum l / 65536 % 256, crcSum l / 256 % 256, crcSum l % 256]

theorem u32wrap (n : Int) : 0 ≤ IntKind.u32.wrap n ∧ IntKind.u32.wrap n < 4294967296 := by
  simp only [IntKind.wrap, IntKind.bits, IntKind.signed]
  simp
  omega
theorem u8wrap (n : Int) : 0 ≤ IntKind.u8.wrap n ∧ IntKind.u8.wrap n < 256 := by
  simp only [IntKind.wrap, IntKind.bits, IntKind.signed]
  simp
  omega
theorem xor32_rng (a b : Int) : 0 ≤ Go.bits .xor .u32 a b ∧ Go.bits .xor .u32 a b < 4294967296 := u32wrap _
theorem xor8_rng (a b : Int) : 0 ≤ Go.bits .xor .u8 a b ∧ Go.bits .xor .u8 a b < 256 := u8wrap _
theorem crcOne_rng (s : Int) : 0 ≤ crcOne s ∧ crcOne s < 4294967296 := by
  unfold crcOne
  split
  · exact xor32_rng _ _
  · omega
theorem crcOnes_rng : ∀ (n : Nat) (s : Int), 0 ≤ s → s < 4294967296 → 0 ≤ crcOnes n s ∧ crcOnes n s < 4294967296
  | 0, s, h0, h1 => ⟨h0, h1⟩
  | n + 1, s, _, _ => crcOnes_rng n _ (crcOne_rng s).1 (crcOne_rng s).2
theorem crcTab_rng (i : Int) : 0 ≤ crcTab i ∧ crcTab i < 4294967296 := crcOnes_rng 8 _ (by omega) (by omega)
theorem crcAdd_rng : ∀ (l : List Int) (s : Int), 0 ≤ s → s < 4294967296 → 0 ≤ crcAdd s l ∧ crcAdd s l < 4294967296
  | [], s, h0, h1 => ⟨h0, h1⟩
  | c :: l, s, _, _ => crcAdd_rng l _ (xor32_rng _ _).1 (xor32_rng _ _).2
theorem crcSum_rng (l : List Int) : 0 ≤ crcSum l ∧ crcSum l < 4294967296 := crcAdd_rng l _ (by omega) (by omega)
theorem sumB_byt (l : List Int) : Byt (sumB l) := by
  intro x h
  simp only [sumB, List.mem_cons, List.not_mem_nil, or_false] at h
  rcases h with rfl | rfl | rfl | rfl <;> omega
theorem sumB_length (l : List Int) : (sumB l).length = 4 := rfl

theorem step_l0 (d : Nat) : ∀ (s : Int) (i : Nat), i + d = 8 → Ev (fun k => crc_step.l0 k s (i : Int)) (crcOnes d s) := by
  induction d with
  | zero =>
    intro s i h
    refine Ev.step (f := fun _ => some s) (fun k => ?_) ⟨0, fun _ _ => rfl⟩
    simp only [crc_step.l0]
    rw [if_neg (by omega)]
  | succ d ih =>
    intro s i h
    refine Ev.step (fun k => ?_) (ih (crcOne s) (i + 1) (by omega))
    simp only [crc_step.l0]
    rw [if_pos (by omega), w64 (by omega) (by omega)]
    unfold crcOne
    by_cases c : s / 2147483648 = 1
    · rw [if_pos c, if_pos c]; rfl
    · rw [if_neg c, if_neg c]; rfl
theorem step_ev (s : Int) : Ev (fun k => crc_step.f k s) (crcOnes 8 s) := by
  have h := step_l0 8 s 0 rfl
  exact Ev.congr (fun k => by unfold crc_step.f; rfl) h
theorem step_calls (s : Int) (w : World) : Calls Try.prog 50 #[.int .u32 s] w fun e w' => e = .returned (.int .u32 (crcOnes 8 s)) ∧ Drawn0 w w' := by
  obtain ⟨k, h⟩ := (step_ev s).rounds
  exact crc_step.calls k s _ w h

end Go.Proofs.Ytaiaackeljlbfaa.QC
