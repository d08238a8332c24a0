import Derived.Test.YtfoalonjlhemmaaProg
import Derived.Below
import Derived.Deep.Draws
import Derived.Deep.AppendLies
import Derived.Maps.AppendAt
import Derived.OwnWalk
import Derived.Laws.BytesArg
import Derived.Laws.MakeOwn
import Derived.Laws.OwnMore
import Derived.Deep.OwnRows
import Derived.Tactics
import Derived.Lib.ConvBytes
import Derived.Laws.Slices
import Derived.WalkKit
import Derived.KernelRfl
import Derived.RowKit3
import Derived.Deep.LoopGhost
import Derived.Deep.QuietTactic
import Derived.BigQuiet
import Derived.WideLaws
import Derived.Deep.DeepCutAuto
import Derived.Deep.CutBlock
import Derived.Deep.RegionHeld3
import Derived.Laws.Rows
import Derived.Lib.AppendStr
import Derived.ArgAppend
import Derived.Laws.IdiomCopy
import Derived.OrdersHeld
import Derived.Laws.BitsLemmas
import Derived.RowKit
import Derived.Tactics2
import Derived.Defers
import Derived.Laws.Pointers
import Derived.Laws.LoneSync
import Derived.RegionTactic
import Derived.RegionCalls
import Derived.ChangeAlike
import Derived.StillTailTactics
import Derived.Deep.RegionWith
import Derived.Laws.NewBlocks
import Derived.Test.YtfoalonjlhemmaaZWWords
import Derived.Test.YtfoalonjlhemmaaZW
section
namespace Go.Proofs.Ytfoalonjlhemmaa.QC
open Go.RowKit Go.Proofs.YtfoalonjlhemmaaW.PrintWords Go.Proofs.YtfoalonjlhemmaaW.PrintLast Go.Proofs.YtfoalonjlhemmaaW.PrintMore
attribute [local go_sem] max2_int min2_int max_two min_two max_three min_three max_four min_four
set_option linter.unusedVariables false
set_option linter.unusedSimpArgs false
abbrev am_ := @Aside0.mk
end Go.Proofs.Ytfoalonjlhemmaa.QC
end
section
namespace Go.Proofs.Ytfoalonjlhemmaa.QC
open Go.RowKit Go.Proofs.YtfoalonjlhemmaaW.PrintWords Go.Proofs.YtfoalonjlhemmaaW.PrintLast Go.Proofs.YtfoalonjlhemmaaW.PrintMore
attribute [local go_sem] max2_int min2_int max_two min_two max_three min_three max_four min_four
set_option linter.unusedVariables false
set_option linter.unusedSimpArgs false
def crc_step.l0 : Nat → Int → Int → Option (Int)
  | 0, _, _ => none
  | k + 1, x0, x4 => if x4 < 8 then (if (x0 / 2147483648) = 1 then (crc_step.l0 k (Go.bits .xor .u32 ((x0 * 2) % 4294967296) 79764919) (wrap64 (x4 + 1))) else (crc_step.l0 k ((x0 * 2) % 4294967296) (wrap64 (x4 + 1)))) else (some x0)
def crc_step.f (k : Nat) (a0 : Int) : Option (Int) := crc_step.l0 k a0 0
theorem crc_step.mono_l : ∀ k, (∀ y0 y1, LeO (crc_step.l0 k y0 y1) (crc_step.l0 (k + 1) y0 y1))
  | 0 => fun _ _ r h => by simp [crc_step.l0] at h
  | k + 1 => by
    have ih0 := crc_step.mono_l k
    · intro y0 y1
      unfold crc_step.l0
      repeat' first
      | (with_reducible exact ih0 _ _)
      | (with_reducible exact LeO.refl _)
      | (with_reducible exact LeO.none _)
      | (with_reducible refine LeO.ite ?_ ?_)
      | (with_reducible refine LeO.bind ?_ (fun _ => ?_))
      | exact ih0 _ _
      | exact LeO.none _
      | refine LeO.ite ?_ ?_
      | refine LeO.bind ?_ (fun _ => ?_)
theorem crc_step.mono : ∀ a0 k, LeO (crc_step.f k a0) (crc_step.f (k + 1) a0) := by
  intro a0 k
  have ih0 := crc_step.mono_l k
  unfold crc_step.f
  repeat' first
      | (with_reducible exact ih0 _ _)
      | (with_reducible exact LeO.refl _)
      | (with_reducible exact LeO.none _)
      | (with_reducible refine LeO.ite ?_ ?_)
      | (with_reducible refine LeO.bind ?_ (fun _ => ?_))
      | exact ih0 _ _
      | exact LeO.none _
      | refine LeO.ite ?_ ?_
      | refine LeO.bind ?_ (fun _ => ?_)
set_option maxHeartbeats 8000000 in
set_option maxRecDepth 100000 in
theorem crc_step.calls (k : Nat) (a0 : Int) (r : Int) (w : World) (h : crc_step.f k a0 = some r) :
    Calls Try.prog 26 #[.int .u32 a0] w fun e w' => e = .returned (.int .u32 r) ∧ Drawn0 w w' := by
  have H : (crc_step.l0 k a0 0) = some r := h
  clear h
  have H' := am_ H
  clear H
  go_enter Try.func26, Try.ntmps26
  go_wp2
  go_loopg [0, 4] k (fun kq v0 v4 w' => ∃ (x0_1 : Int) (x4_1 : Int), v0 = .int .u32 x0_1 ∧ v4 = .int .i64 x4_1 ∧ Aside0 (crc_step.l0 kq x0_1 x4_1 = some r) ∧ Aside0 (kq ≤ k) ∧ Drawn0 w w')
  case atStart => exact ⟨(a0), (0), (by first | rfl | (simp; done) | (simp [*]; done)), (by first | rfl | (simp; done) | (simp [*]; done)), H', ⟨Nat.le_refl _⟩, by repeat (first | exact Drawn0.refl _ | apply Drawn0.step)⟩
  case round =>
    clear H'
    obtain ⟨x0_1, x4_1, rfl, rfl, HA, HK1, ⟨m1, rfl⟩⟩ := hrel
    cases gk with
    | zero => exact absurd HA.out (by simp [crc_step.l0])
    | succ k1 =>
      have H := HA.out
      clear HA
      simp only [crc_step.l0] at H
      by_cases c2 : x4_1 < 8
      · rw [if_pos c2] at H
        have c2b0 : decide (x4_1 < 8) = true := decide_eq_true c2
        clear c2
        by_cases c3 : (x0_1 / 2147483648) = 1
        · rw [if_pos c3] at H
          have c3b0 : ((x0_1 / 2147483648) == 1) = true := beq_iff_eq.mpr c3
          have c3b1 : ((x0_1 / 2147483648) != 1) = false := bne_eq_false_iff_eq.mpr c3
          clear c3
          have H' := am_ H
          clear H
          go_wp2
          go_roundg k1
          case measure => have := HK1.out; omega
          case rel => exact ⟨(Go.bits .xor .u32 ((x0_1 * 2) % 4294967296) 79764919), (wrap64 (x4_1 + 1)), (by first | rfl | (simp; done) | (simp [*]; done)), (by first | rfl | (simp; done) | (simp [*]; done)), H', ⟨by have := HK1.out; omega⟩, by repeat (first | exact Drawn0.refl _ | apply Drawn0.step)⟩
        · rw [if_neg c3] at H
          have c3b0 : ((x0_1 / 2147483648) == 1) = false := beq_eq_false_iff_ne.mpr c3
          have c3b1 : ((x0_1 / 2147483648) != 1) = true := bne_iff_ne.mpr c3
          have H' := am_ H
          clear H
          go_wp2
          go_roundg k1
          case measure => have := HK1.out; omega
          case rel => exact ⟨((x0_1 * 2) % 4294967296), (wrap64 (x4_1 + 1)), (by first | rfl | (simp; done) | (simp [*]; done)), (by first | rfl | (simp; done) | (simp [*]; done)), H', ⟨by have := HK1.out; omega⟩, by repeat (first | exact Drawn0.refl _ | apply Drawn0.step)⟩
      · rw [if_neg c2] at H
        have c2b0 : decide (x4_1 < 8) = false := decide_eq_false c2
        clear c2
        obtain rfl := Option.some.inj H
        go_wp2
        go_ret
        exact ⟨by first | rfl | (simp; done) | (simp [*]; done), by repeat (first | exact Drawn0.refl _ | apply Drawn0.step)⟩
end Go.Proofs.Ytfoalonjlhemmaa.QC
end
section
namespace Go.Proofs.Ytfoalonjlhemmaa.Mth
open Go.RowKit Go.Proofs.YtfoalonjlhemmaaW.PrintWords Go.Proofs.YtfoalonjlhemmaaW.PrintLast Go.Proofs.YtfoalonjlhemmaaW.PrintMore
set_option linter.unusedVariables false
set_option linter.unusedSimpArgs false
def Byt (l : List Int) : Prop := ∀ x ∈ l, 0 ≤ x ∧ x < 256
theorem byt_nil : Byt [] := fun x h => by simp at h
theorem byt_cons {b : Int} {l : List Int} (hb : 0 ≤ b ∧ b < 256) (hl : Byt l) : Byt (b :: l) := by
  intro x h
  rcases List.mem_cons.1 h with h | h
  · subst h; exact hb
  · exact hl x h
theorem byt_take {l : List Int} (h : Byt l) (n : Nat) : Byt (l.take n) := fun x hx => h x (List.mem_of_mem_take hx)
theorem w64 {x : Int} (h0 : -9223372036854775808 ≤ x) (h1 : x ≤ 9223372036854775807) : wrap64 x = x := by unfold wrap64; omega
end Go.Proofs.Ytfoalonjlhemmaa.Mth
end
section
namespace Go.Proofs.Ytfoalonjlhemmaa.QC
open Go.RowKit Go.Proofs.YtfoalonjlhemmaaW.PrintWords Go.Proofs.YtfoalonjlhemmaaW.PrintLast Go.Proofs.YtfoalonjlhemmaaW.PrintMore Go.Proofs.Ytfoalonjlhemmaa.Mth
set_option linter.unusedVariables false
set_option linter.unusedSimpArgs false
def crcOne (s : Int) : Int := if s / 2147483648 = 1 then Go.bits .xor .u32 ((s * 2) % 4294967296) 79764919 else (s * 2) % 4294967296
def crcOnes : Nat → Int → Int
  | 0, s => s
  | n + 1, s => crcOnes n (crcOne s)
def crcTab (i : Int) : Int := crcOnes 8 ((i * 16777216) % 4294967296)
def crcAdd : Int → List Int → Int
  | s, [] => s
  | s, c :: l => crcAdd (Go.bits .xor .u32 ((s * 256) % 4294967296) (crcTab (Go.bits .xor .u8 ((s / 16777216) % 256) c))) l
def crcSum (l : List Int) : Int := crcAdd 4294967295 l
theorem u32wrap (n : Int) : 0 ≤ IntKind.u32.wrap n ∧ IntKind.u32.wrap n < 4294967296 := by
  simp only [IntKind.wrap, IntKind.bits, IntKind.signed]
  simp
  omega
theorem u8wrap (n : Int) : 0 ≤ IntKind.u8.wrap n ∧ IntKind.u8.wrap n < 256 := by
  simp only [IntKind.wrap, IntKind.bits, IntKind.signed]
  simp
  omega
theorem xor32_rng (a b : Int) : 0 ≤ Go.bits .xor .u32 a b ∧ Go.bits .xor .u32 a b < 4294967296 := u32wrap _
theorem xor8_rng (a b : Int) : 0 ≤ Go.bits .xor .u8 a b ∧ Go.bits .xor .u8 a b < 256 := u8wrap _
theorem crcOne_rng (s : Int) : 0 ≤ crcOne s ∧ crcOne s < 4294967296 := by
  unfold crcOne
  split
  · exact xor32_rng _ _
  · omega
theorem crcOnes_rng : ∀ (n : Nat) (s : Int), 0 ≤ s → s < 4294967296 → 0 ≤ crcOnes n s ∧ crcOnes n s < 4294967296
  | 0, s, h0, h1 => ⟨h0, h1⟩
  | n + 1, s, _, _ => crcOnes_rng n _ (crcOne_rng s).1 (crcOne_rng s).2
theorem crcAdd_rng : ∀ (l : List Int) (s : Int), 0 ≤ s → s < 4294967296 → 0 ≤ crcAdd s l ∧ crcAdd s l < 4294967296
  | [], s, h0, h1 => ⟨h0, h1⟩
  | c :: l, s, _, _ => crcAdd_rng l _ (xor32_rng _ _).1 (xor32_rng _ _).2
theorem step_l0 (d : Nat) : ∀ (s : Int) (i : Nat), i + d = 8 → Ev (fun k => crc_step.l0 k s (i : Int)) (crcOnes d s) := by
  induction d with
  | zero =>
    intro s i h
    refine Ev.step (f := fun _ => some s) (fun k => ?_) ⟨0, fun _ _ => rfl⟩
    simp only [crc_step.l0]
    rw [if_neg (by omega)]
  | succ d ih =>
    intro s i h
    refine Ev.step (fun k => ?_) (ih (crcOne s) (i + 1) (by omega))
    simp only [crc_step.l0]
    rw [if_pos (by omega), w64 (by omega) (by omega)]
    unfold crcOne
    by_cases c : s / 2147483648 = 1
    · rw [if_pos c, if_pos c]; rfl
    · rw [if_neg c, if_neg c]; rfl
theorem step_ev (s : Int) : Ev (fun k => crc_step.f k s) (crcOnes 8 s) := by
  have h := step_l0 8 s 0 rfl
  exact Ev.congr (fun k => by unfold crc_step.f; rfl) h
theorem step_calls (s : Int) (w : World) : Calls Try.prog 26 #[.int .u32 s] w fun e w' => e = .returned (.int .u32 (crcOnes 8 s)) ∧ Drawn0 w w' := by
  obtain ⟨k, h⟩ := (step_ev s).rounds
  exact crc_step.calls k s _ w h
end Go.Proofs.Ytfoalonjlhemmaa.QC
end
section
namespace Go.Proofs.Ytfoalonjlhemmaa.Crc
open Go.Proofs.YtfoalonjlhemmaaW.PrintWords
set_option linter.unusedVariables false
set_option linter.unusedSimpArgs false
theorem disable (w : World) : (callFunc 37 #[]).run Try.prog w = .ok (.value (.tuple #[])) w := run_call_mark0 Try.func37 (by kernel_rfl) (by kernel_rfl) (by kernel_rfl) .disable (by kernel_rfl) w
theorem enable (w : World) : (callFunc 39 #[]).run Try.prog w = .ok (.value (.tuple #[])) w := run_call_mark0 Try.func39 (by kernel_rfl) (by kernel_rfl) (by kernel_rfl) .enable (by kernel_rfl) w
theorem acquire (a : Addr) (w : World) : (callFunc 40 #[.pointer (some a)]).run Try.prog w = .ok (.value (.tuple #[])) w := run_call_marked Try.func40 (by kernel_rfl) (by kernel_rfl) (by kernel_rfl) .acquire (by kernel_rfl) a w
theorem releaseMerge (a : Addr) (w : World) : (callFunc 42 #[.pointer (some a)]).run Try.prog w = .ok (.value (.tuple #[])) w := run_call_marked Try.func42 (by kernel_rfl) (by kernel_rfl) (by kernel_rfl) .releaseMerge (by kernel_rfl) a w
theorem store_deferred (a : Addr) (x : Value) (u : FrameMode) (w : World) (hc : w.cell? a = some x) (hz : w.frozen? a = false) :
    CallsD Try.prog 32 #[.pointer (some a), .bool true] u w fun e u' w' => u' = u ∧ (e = .returned (.tuple #[]) ∧ w' = w.drew.setCell a (.int .u32 1)) := by
  have hc' : w.drew.cell? a = some x := by go_simp
  have hz' : w.drew.frozen? a = false := by go_simp
  have hst := run_call_store (P := Try.prog) Try.func35 (by kernel_rfl) (by kernel_rfl) (by kernel_rfl) (by kernel_rfl) (k := .u32) (y := 1) hc' hz'
  go_enter_d Try.func32, Try.ntmps32
  go_wp2
  go_region_calls
  all_goals (go_end0; exact ⟨rfl, rfl⟩)
set_option maxRecDepth 100000 in
set_option maxHeartbeats 1600000 in
theorem unlock_deferred (a : Addr) (u : FrameMode) (w : World) (hc : w.cell? a = some (.int .i32 1)) (hz : w.frozen? a = false) :
    CallsD Try.prog 31 #[.pointer (some a)] u w fun e u' w' => u' = u ∧ (e = .returned (.tuple #[]) ∧ w' = w.setCell a (.int .i32 0)) := by
  have hd := disable
  have he := enable
  have hr := releaseMerge
  have hadd := run_call_add (P := Try.prog) Try.func43 (by kernel_rfl) (by kernel_rfl) (by kernel_rfl) .i32 (by kernel_rfl) (y := -1) (s := 0) hc hz (by simp [go_sem]; rfl)
  have hcv := run_convert_to_unsafe (P := Try.prog) (src := 64) (dst := 68) Try.underlying64 Try.underlying68 (by kernel_rfl) hc
  go_enter_d Try.func31, Try.ntmps31
  go_wp2
  go_end0
  go_wp2
  go_end0
  exact ⟨rfl, rfl⟩
set_option maxRecDepth 100000 in
set_option maxHeartbeats 1600000 in
theorem lock_free (a : Addr) (w : World) (hc : w.cell? a = some (.int .i32 0)) (hz : w.frozen? a = false) :
    Calls Try.prog 30 #[.pointer (some a)] w fun e w' => e = .returned (.tuple #[]) ∧ w' = w.setCell a (.int .i32 1) := by
  have hd := disable
  have he := enable
  have ha := acquire
  have hcas := run_call_cas_hit (P := Try.prog) Try.func38 (by kernel_rfl) (by kernel_rfl) (by kernel_rfl) .i32 (by kernel_rfl) (y := 1) hc hz
  have hc' : (w.setCell a (.int .i32 1)).cell? a = some (.int .i32 1) := World.cell?_setCell_same w a _ hc
  have hcv := run_convert_to_unsafe (P := Try.prog) (src := 64) (dst := 68) Try.underlying64 Try.underlying68 (by kernel_rfl) hc'
  go_enter Try.func30, Try.ntmps30
  go_wp2
  first | go_end0 | (simp only [Exit.inBlock, Exit.then]; refine bodyPost_ret (results_none rfl _ _ _) rfl ?_) | refine bodyPost_ret (results_none rfl _ _ _) rfl ?_
  go_wp2
  go_end0
  exact ⟨rfl, rfl⟩
end Go.Proofs.Ytfoalonjlhemmaa.Crc
end
section
namespace Go.Proofs.Ytfoalonjlhemmaa.Crc
open Go.RowKit Go.Proofs.YtfoalonjlhemmaaW.PrintWords Go.Proofs.YtfoalonjlhemmaaW.PrintLast Go.Proofs.YtfoalonjlhemmaaW.PrintMore Go.Proofs.Ytfoalonjlhemmaa.Mth Go.Proofs.Ytfoalonjlhemmaa.QC
set_option linter.unusedVariables false
set_option linter.unusedSimpArgs false
def laid (cs : Array Value) : Nat → Array Value
  | 0 => cs
  | n + 1 => (laid cs n).setIfInBounds (4 + n) (.int .u32 (crcTab (n : Int)))
theorem laid_size (cs : Array Value) : ∀ n, (laid cs n).size = cs.size
  | 0 => rfl
  | n + 1 => by simp [laid, laid_size cs n]
theorem drawn_block {w w' : World} {b : Nat} {o : Obj} (hd : Drawn0 w w') (h : w.heap[b]? = some o) : w'.heap[b]? = some o := by
  obtain ⟨n, rfl⟩ := hd.out; exact h
theorem drawn_grown {w0 w w' : World} {r : Option Nat} (hd : Drawn0 w w') (h : w0.grownBy w r) : w0.grownBy w' r := by
  obtain ⟨n, rfl⟩ := hd.out; exact ⟨h.os, h.tape, h.output, h.size, h.block⟩
theorem drew_grown {w0 w : World} {r : Option Nat} (h : w0.grownBy w r) : w0.grownBy w.drew r := ⟨h.os, h.tape, h.output, h.size, h.block⟩
theorem set_grown {w0 w : World} {b : Nat} (h : w0.grownBy w (some b)) (j : Nat) (v : Value) : w0.grownBy (w.setCell ⟨b, j, none⟩ v) (some b) :=
  ⟨h.os, h.tape, h.output, by rw [Go.Deep.nblk_setCell]; exact h.size, fun i hi hne => by
    rw [← h.block i hi hne]
    exact Below.heap_setCell w ⟨b, j, none⟩ v i (fun e => hne (by rw [e]))⟩
theorem htabk (k : Nat) (h : k < 256) : crcOnes 8 ((k : Int) % 4294967296 * 16777216 % 4294967296) = crcTab (k : Int) := by
  unfold crcTab
  rw [Int.emod_eq_of_lt (show (0 : Int) ≤ k by omega) (by omega)]
set_option maxRecDepth 100000 in
set_option maxHeartbeats 4000000 in
theorem fill_calls (b : Nat) (cs : Array Value) (w : World) (hn : cs.size = 260) (hb : w.heap[b]? = some (.cells cs 53 (0, 0))) :
    Calls Try.prog 25 #[.pointer (some ⟨b, 0, none⟩)] w fun e w' => e = .returned (.tuple #[]) ∧ (w.grownBy w' (some b) ∧ w'.heap[b]? = some (.cells ((laid cs 256).setIfInBounds 3 (.bool true)) 53 (0, 0))) := by
  have HB := Aside0.mk hb
  have HN := Aside0.mk hn
  have HC2 := @drawn_block
  have HG2 := @drawn_grown
  clear hb hn
  go_enter Try.func25, Try.ntmps25
  go_wp2
  go_loopw [2, 3] (fun t i wr => ∃ k : Nat, k ≤ 256 ∧ i = .int .i64 k ∧ Aside0 (w.grownBy wr (some b)) ∧ Aside0 (wr.heap[b]? = some (.cells (laid cs k) 53 (0, 0)))) (fun _ i _ => 256 - (intOf i).toNat)
  case atStart => exact ⟨0, Nat.zero_le _, rfl, ⟨World.grownBy.refl _ _⟩, HB⟩
  case round =>
    obtain ⟨k, hk, rfl, HG, HC⟩ := hrel
    by_cases hlt : k < 256
    · have hlt' : decide ((k : Int) < 256) = true := decide_eq_true (by omega)
      go_wp2
      have h0 : (0 : Int) ≤ (k : Int) := by omega
      have h1 : (k : Int) < 256 := by omega
      obtain ⟨vo, hv⟩ : ∃ vo, (laid cs k)[4 + k]? = some vo := ⟨_, Array.getElem?_eq_getElem (by rw [laid_size, HN.out]; omega)⟩
      have HV := Aside0.mk hv
      clear hv
      refine start_ (n := 10) (S := fun w' => w'.heap[b]? = some (.cells (laid cs k) 53 (0, 0)) ∧ w.grownBy w' (some b)) (ds := [9]) #[false, false, false, false, false, false, false, false, false, false] (by kernel_rfl) rfl rfl ⟨(show wr.drew.heap[b]? = _ from HC.out), (drew_grown HG.out)⟩ (fun hHeld => ?_)
      refine pure_ (i := 0) (N := some 6) (v := ?_) (a' := ?_) #[true, false, false, false, false, false, false, false, false, false] rfl rfl (by kernel_rfl) (fun _ _ _ h => h) (Or.inl ⟨by rfl, ?_⟩) ?_ ?_
      rotate_left
      · intro w'
        go_simp
        with_reducible rfl
      rotate_left
      · simp only [Act.put, List.setIfInBounds_toArray, List.set_cons_zero, List.set_cons_succ, i64_w, i32_w]
        rfl
      refine pure_ (i := 1) (N := some 7) (v := ?_) (a' := ?_) #[true, true, false, false, false, false, false, false, false, false] rfl rfl (by kernel_rfl) (fun _ _ _ h => h) (Or.inl ⟨by rfl, ?_⟩) ?_ ?_
      rotate_left
      · intro w'
        go_simp
        with_reducible rfl
      rotate_left
      · simp only [Act.put, List.setIfInBounds_toArray, List.set_cons_zero, List.set_cons_succ, i64_w, i32_w]
        rfl
      refine pure_ (i := 2) (N := some 8) (v := ?_) (a' := ?_) #[true, true, true, false, false, false, false, false, false, false] rfl rfl (by kernel_rfl) (fun _ _ _ h => h) (Or.inl ⟨by rfl, ?_⟩) ?_ ?_
      rotate_left
      · intro w'
        go_simp
        with_reducible rfl
      rotate_left
      · simp only [Act.put, List.setIfInBounds_toArray, List.set_cons_zero, List.set_cons_succ, i64_w, i32_w]
        rfl
      refine pure_ (i := 3) (N := some 9) (v := ?_) (a' := ?_) #[true, true, true, true, false, false, false, false, false, false] rfl rfl (by kernel_rfl) (fun _ _ _ h => h) (Or.inl ⟨by rfl, ?_⟩) ?_ ?_
      rotate_left
      · intro w'
        go_simp
        with_reducible rfl
      rotate_left
      · simp only [Act.put, List.setIfInBounds_toArray, List.set_cons_zero, List.set_cons_succ, i64_w, i32_w]
        rfl
      refine pure_ (i := 4) (N := some 10) (v := ?_) (a' := ?_) #[true, true, true, true, true, false, false, false, false, false] rfl rfl (by kernel_rfl) (fun _ _ _ h => h) (Or.inl ⟨by rfl, ?_⟩) ?_ ?_
      rotate_left
      · intro w'
        go_simp
        with_reducible rfl
      rotate_left
      · simp only [Act.put, List.setIfInBounds_toArray, List.set_cons_zero, List.set_cons_succ, i64_w, i32_w]
        rfl
      refine pure_ (i := 6) (N := some 12) (v := ?_) (a' := ?_) #[true, true, true, true, true, false, true, false, false, false] rfl rfl (by kernel_rfl) (fun _ _ _ h => h) (Or.inl ⟨by rfl, ?_⟩) ?_ ?_
      rotate_left
      · intro w'
        go_simp
        with_reducible rfl
      rotate_left
      · simp only [Act.put, List.setIfInBounds_toArray, List.set_cons_zero, List.set_cons_succ, i64_w, i32_w]
        rfl
      refine pure_ (i := 7) (N := some 13) (v := ?_) (a' := ?_) #[true, true, true, true, true, false, true, true, false, false] rfl rfl (by kernel_rfl) (fun _ _ _ h => h) (Or.inl ⟨by rfl, ?_⟩) ?_ ?_
      rotate_left
      · intro w'
        go_simp
        with_reducible rfl
      rotate_left
      · simp only [Act.put, List.setIfInBounds_toArray, List.set_cons_zero, List.set_cons_succ, i64_w, i32_w]
        rfl
      refine one_ (i := 5) (N := some 11) #[true, true, true, true, true, true, true, true, false, false] rfl rfl (by kernel_rfl) (by decide) (fun K hK => ?_)
      refine goes_ Try.func26 (by kernel_rfl) rfl #[.int .u32 ((k : Int) % 4294967296 * 16777216 % 4294967296)] (by rfl) rfl rfl (by simp only [List.map_toArray, List.map_cons, List.map_nil]; rfl) ?_
      with_reducible refine (step_calls _ _).mono ?_
      rintro e w3 ⟨rfl, hd3⟩
      refine ⟨_, rfl, ?_⟩
      have hc3 := HC2 hd3 hHeld.1
      have hg3 := HG2 hd3 hHeld.2
      refine hK.out _ _ ⟨hc3, hg3⟩ (fun hHeld => ?_)
      clear hK K
      refine norm_ (a' := ?_) ?_ ?_
      rotate_left
      · show Act.put _ (some 11) _ = _
        simp only [Act.put, List.setIfInBounds_toArray, List.set_cons_zero, List.set_cons_succ, i64_w, i32_w]
        rfl
      refine pure_ (i := 8) (N := some 14) (v := ?_) (a' := ?_) #[true, true, true, true, true, true, true, true, true, false] rfl rfl (by kernel_rfl) (fun _ _ _ h => h) (Or.inl ⟨by rfl, ?_⟩) ?_ ?_
      rotate_left
      · intro w'
        go_simp
        with_reducible rfl
      rotate_left
      · simp only [Act.put, List.setIfInBounds_toArray, List.set_cons_zero, List.set_cons_succ, i64_w, i32_w]
        rfl
      refine last_ (i := 9) (N := none) #[true, true, true, true, true, true, true, true, true, true] rfl rfl (by kernel_rfl) (by decide) (fun K hK => ?_)
      have hq := (blk_cell hHeld.1 (4 + k)).trans HV.out
      have hz := blk_frozen hHeld.1 (4 + k)
      refine skip_ (w1 := ?_) (by rfl) rfl ?_ ?_
      rotate_left
      · go_simp
        rfl
      refine hK.out _ _ ?_
      clear hK K
      refine done_ (by kernel_rfl) ?_
      clear hHeld hq hz HV
      have HG9 := Aside0.mk hg3
      have HC9 := Aside0.mk hc3
      clear hc3 hg3
      go_wp2
      go_roundw
      case rel =>
        refine ⟨k + 1, by omega, by go_num, ⟨set_grown HG9.out (4 + k) _⟩, ⟨?_⟩⟩
        simp only [laid]
        rw [← htabk k (by omega)]
        exact blk_set HC9.out (4 + k) _
      case measure => simp [intOf]; omega
    · have hge : decide ((k : Int) < 256) = false := decide_eq_false (by omega)
      obtain rfl : k = 256 := by omega
      have hq : wr.cell? ⟨b, 3, none⟩ = some ((laid cs 256)[3]'(by rw [laid_size, HN.out]; omega)) := (blk_cell HC.out 3).trans (Array.getElem?_eq_getElem (by rw [laid_size, HN.out]; omega))
      have hz : wr.frozen? ⟨b, 3, none⟩ = false := blk_frozen HC.out 3
      go_wp2
      go_end0
      exact ⟨rfl, set_grown HG.out 3 _, blk_set HC.out 3 _⟩
end Go.Proofs.Ytfoalonjlhemmaa.Crc
end
section
namespace Go.Proofs.Ytfoalonjlhemmaa.Crc
open Go.RowKit Go.Proofs.YtfoalonjlhemmaaW.PrintWords Go.Proofs.YtfoalonjlhemmaaW.PrintLast Go.Proofs.YtfoalonjlhemmaaW.PrintMore Go.Proofs.Ytfoalonjlhemmaa.Mth Go.Proofs.Ytfoalonjlhemmaa.QC
set_option linter.unusedVariables false
set_option linter.unusedSimpArgs false
def made (cs : Array Value) : Array Value := (((laid (cs.setIfInBounds 1 (.int .i32 1)) 256).setIfInBounds 3 (.bool true)).setIfInBounds 0 (.int .u32 1)).setIfInBounds 1 (.int .i32 0)
theorem laid_low (cs : Array Value) (j : Nat) (hj : j < 4) : ∀ n, (laid cs n)[j]? = cs[j]?
  | 0 => rfl
  | n + 1 => by
    simp only [laid]
    rw [Array.getElem?_setIfInBounds_ne (by omega)]
    exact laid_low cs j hj n
theorem laid_at (cs : Array Value) (hn : cs.size = 260) (j : Nat) (hj : j < 256) : ∀ n, j < n → n ≤ 256 → (laid cs n)[4 + j]? = some (.int .u32 (crcTab (j : Int)))
  | 0, h, _ => by omega
  | n + 1, h, hn' => by
    simp only [laid]
    by_cases e : j = n
    · subst e
      rw [Array.getElem?_setIfInBounds_self_of_lt (by rw [laid_size]; omega)]
    · rw [Array.getElem?_setIfInBounds_ne (by omega)]
      exact laid_at cs hn j hj n (by omega) (by omega)
theorem made_size (cs : Array Value) : (made cs).size = cs.size := by simp [made, laid_size]
theorem made_at (cs : Array Value) (hn : cs.size = 260) (j : Nat) (hj : j < 256) : (made cs)[4 + j]? = some (.int .u32 (crcTab (j : Int))) := by
  unfold made
  rw [Array.getElem?_setIfInBounds_ne (by omega), Array.getElem?_setIfInBounds_ne (by omega), Array.getElem?_setIfInBounds_ne (by omega)]
  exact laid_at _ (by simpa using hn) j hj 256 hj (Nat.le_refl _)
theorem made_zero (cs : Array Value) (hn : cs.size = 260) : (made cs)[0]? = some (.int .u32 1) := by
  unfold made
  rw [Array.getElem?_setIfInBounds_ne (by omega), Array.getElem?_setIfInBounds_self_of_lt (by simp [laid_size]; omega)]
theorem made_three (cs : Array Value) (hn : cs.size = 260) : (made cs)[3]? = some (.bool true) := by
  unfold made
  rw [Array.getElem?_setIfInBounds_ne (by omega), Array.getElem?_setIfInBounds_ne (by omega), Array.getElem?_setIfInBounds_self_of_lt (by simp [laid_size]; omega)]
theorem grown_trans {w w1 w2 : World} {b : Nat} (h : w.grownBy w1 (some b)) (k : w1.grownBy w2 (some b)) : w.grownBy w2 (some b) :=
  ⟨k.os.trans h.os, k.tape.trans h.tape, k.output.trans h.output, Nat.le_trans h.size k.size, fun i hi hne => (k.block i (Nat.lt_of_lt_of_le hi h.size) hne).trans (h.block i hi hne)⟩
set_option maxRecDepth 100000 in
set_option maxHeartbeats 4000000 in
theorem slow_calls (b : Nat) (cs : Array Value) (w : World) (hn : cs.size = 260) (hb : w.heap[b]? = some (.cells cs 53 (0, 0))) (h0 : cs[0]? = some (.int .u32 0)) (h1 : cs[1]? = some (.int .i32 0)) :
    Calls Try.prog 28 #[.pointer (some ⟨b, 0, none⟩), .func (.func 25) #[.pointer (some ⟨b, 0, none⟩)] #[]] w fun e w' => e = .returned (.tuple #[]) ∧ (w.grownBy w' (some b) ∧ w'.heap[b]? = some (.cells (made cs) 53 (0, 0))) := by
  have HB := Aside0.mk hb
  have HN := Aside0.mk hn
  have H0 := Aside0.mk h0
  have H1 := Aside0.mk h1
  have b1 := Aside0.mk (blk_set hb 1 (.int .i32 1))
  have g1 := Aside0.mk (set_grown (World.grownBy.refl w (some b)) 1 (.int .i32 1))
  have c1 : w.cell? ⟨b, 1, none⟩ = some (.int .i32 0) := (blk_cell hb 1).trans h1
  have z1 : w.frozen? ⟨b, 1, none⟩ = false := blk_frozen hb 1
  have hl := run_call_load (P := Try.prog) Try.func29 (by kernel_rfl) (by kernel_rfl) (by kernel_rfl) .u32 (by kernel_rfl) (w := w.setCell ⟨b, 1, none⟩ (.int .i32 1)) (a := ⟨b, 0, none⟩) (x := 0) ((World.cell?_setCell_other _ ⟨b, 1, none⟩ ⟨b, 0, none⟩ _ (by simp)).trans ((blk_cell hb 0).trans h0))
  have hnot : ∀ (x : Bool) (w : World), (Op.unary .not (.bool x)).run Try.prog w = .ok (.bool (!x)) w := fun _ _ => rfl
  clear hb hn h0 h1
  go_enter_defers Try.func28, Try.ntmps28
  go_wp2_with (first | (go_at_call 30; refine (lock_free ⟨b, 1, none⟩ _ (by go_simp) (by go_simp)).mono ?_; rintro e w' ⟨rfl, rfl⟩) | (go_at_call 27; go_in) | (go_at_call 25; refine (fill_calls b (cs.setIfInBounds 1 (.int .i32 1)) _ (by rw [Array.size_setIfInBounds]; exact HN.out) b1.out).mono ?_; rintro e w2 ⟨rfl, hg, hc⟩; have HG := Aside0.mk hg; have HC := Aside0.mk hc; clear hg hc))
  have e0 : ((laid (cs.setIfInBounds 1 (.int .i32 1)) 256).setIfInBounds 3 (.bool true))[0]? = some (.int .u32 0) := by
    rw [Array.getElem?_setIfInBounds_ne (by omega), laid_low _ 0 (by omega), Array.getElem?_setIfInBounds_ne (by omega)]; exact H0.out
  have e1 : (((laid (cs.setIfInBounds 1 (.int .i32 1)) 256).setIfInBounds 3 (.bool true)).setIfInBounds 0 (.int .u32 1))[1]? = some (.int .i32 1) := by
    rw [Array.getElem?_setIfInBounds_ne (by omega), Array.getElem?_setIfInBounds_ne (by omega), laid_low _ 1 (by omega), Array.getElem?_setIfInBounds_self_of_lt (by have := HN.out; omega)]
  have k1 := blk_set (show w2.drew.heap[b]? = _ from HC.out) 0 (.int .u32 1)
  have k2 := blk_set k1 1 (.int .i32 0)
  have G2 := set_grown (set_grown (drew_grown (grown_trans g1.out HG.out)) 0 (.int .u32 1)) 1 (.int .i32 0)
  refine leaves_cons (f := 32) (args := #[.pointer (some ⟨b, 0, none⟩), .bool true]) (by simp) (by simp [go_sem]) ?_
  refine (store_deferred ⟨b, 0, none⟩ (.int .u32 0) .returning _ ((blk_cell HC.out 0).trans e0) (blk_frozen HC.out 0)).mono ?_
  rintro e u' w'' ⟨rfl, rfl, rfl⟩
  refine leaves_cons (f := 31) (args := #[.pointer (some ⟨b, 1, none⟩)]) (by simp [settle]) (by simp [go_sem]) ?_
  refine (unlock_deferred ⟨b, 1, none⟩ _ _ ((blk_cell k1 1).trans e1) (blk_frozen k1 1)).mono ?_
  rintro e u' w'' ⟨rfl, rfl, rfl⟩
  simp [Leaves, settle, results, Try.results28]
  exact ⟨G2, k2⟩
theorem drop_cons_rd {xs : List Int} {k : Nat} (hk : k < xs.length) : xs.drop k = rd xs (k : Int) :: xs.drop (k + 1) := by
  unfold rd
  rw [Int.toNat_natCast, List.getD_eq_getElem?_getD, List.getElem?_eq_getElem hk]
  exact List.drop_eq_getElem_cons hk
theorem C_far {w w1 : World} {b : Nat} {A : Option Addr} {xs : List Int} (h : Kd.C (Kd.int .u8) w A xs.length xs) (hf : ∀ ad, A = some ad → 0 < xs.length → ad.block ≠ b) (hg : w.grownBy w1 (some b)) : Kd.C (Kd.int .u8) w1 A xs.length xs := by
  refine ⟨h.1, h.2.1, fun hn => ?_⟩
  obtain ⟨ad, e, hc⟩ := h.2.2 hn
  refine ⟨ad, e, fun j p hj => ?_⟩
  obtain ⟨c, hl, hK, hcell⟩ := hc j p hj
  refine ⟨c, hl, hK, fun i u hu => ?_⟩
  have hcc := hcell i u hu
  have hb : (ad.add (j * (Kd.int .u8).sz + i)).block = ad.block := add_block _ _
  have hlt := World.block_lt_of_cell? w _ hcc
  rw [World.cell?_of_block (w := w) (w' := w1) (by
    refine hg.block _ hlt (fun e2 => ?_)
    rw [hb] at e2
    exact hf ad e hn (Option.some.inj e2))]
  exact hcc
set_option maxRecDepth 100000 in
set_option maxHeartbeats 4000000 in
theorem do_first (b : Nat) (cs : Array Value) (w : World) (hn : cs.size = 260) (hb : w.heap[b]? = some (.cells cs 53 (0, 0))) (h0 : cs[0]? = some (.int .u32 0)) (h1 : cs[1]? = some (.int .i32 0)) :
    Calls Try.prog 24 #[.pointer (some ⟨b, 0, none⟩), .func (.func 25) #[.pointer (some ⟨b, 0, none⟩)] #[]] w fun e w' => e = .returned (.tuple #[]) ∧ (w.grownBy w' (some b) ∧ w'.heap[b]? = some (.cells (made cs) 53 (0, 0))) := by
  have hl := run_call_load (P := Try.prog) Try.func29 (by kernel_rfl) (by kernel_rfl) (by kernel_rfl) .u32 (by kernel_rfl) ((blk_cell hb 0).trans h0)
  have hnot : ∀ (x : Bool) (w : World), (Op.unary .not (.bool x)).run Try.prog w = .ok (.bool (!x)) w := fun _ _ => rfl
  have SL := Aside0.mk (slow_calls b cs w hn hb h0 h1)
  clear hn hb h0 h1
  go_enter Try.func24, Try.ntmps24
  go_wp2_with (first | (go_at_call 28; refine SL.out.mono ?_; rintro e w' ⟨rfl, hg, hc⟩; have HG := Aside0.mk hg; have HC := Aside0.mk hc; clear hg hc) | (go_at_call 27; go_in))
  go_end0
  exact ⟨rfl, HG.out, HC.out⟩
set_option maxRecDepth 100000 in
set_option maxHeartbeats 4000000 in
theorem do_done (b : Nat) (cs : Array Value) (fv : Value) (w : World) (hb : w.heap[b]? = some (.cells cs 53 (0, 0))) (h0 : cs[0]? = some (.int .u32 1)) :
    Calls Try.prog 24 #[.pointer (some ⟨b, 0, none⟩), fv] w fun e w' => e = .returned (.tuple #[]) ∧ w' = w := by
  have hl := run_call_load (P := Try.prog) Try.func29 (by kernel_rfl) (by kernel_rfl) (by kernel_rfl) .u32 (by kernel_rfl) ((blk_cell hb 0).trans h0)
  have hnot : ∀ (x : Bool) (w : World), (Op.unary .not (.bool x)).run Try.prog w = .ok (.bool (!x)) w := fun _ _ => rfl
  clear hb h0
  go_enter Try.func24, Try.ntmps24
  go_wp2
  go_end0
  exact ⟨rfl, rfl⟩
structure Done (cs : Array Value) : Prop where
  size : cs.size = 260
  zero : cs[0]? = some (.int .u32 1)
  three : cs[3]? = some (.bool true)
  at_ : ∀ j, j < 256 → cs[4 + j]? = some (.int .u32 (crcTab (j : Int)))
structure Fresh (cs : Array Value) : Prop where
  size : cs.size = 260
  zero : cs[0]? = some (.int .u32 0)
  one : cs[1]? = some (.int .i32 0)
  three : cs[3]? = some (.bool false)
theorem made_done {cs : Array Value} (h : Fresh cs) : Done (made cs) := ⟨by rw [made_size]; exact h.size, made_zero cs h.size, made_three cs h.size, fun j hj => made_at cs h.size j hj⟩
theorem done_at {cs : Array Value} (h : Done cs) {w : World} {b : Nat} (hb : w.heap[b]? = some (.cells cs 53 (0, 0))) {j : Nat} (hj : j < 256) : w.cell? ⟨b, 4 + j, none⟩ = some (.int .u32 (crcTab (j : Int))) := (blk_cell hb _).trans (h.at_ j hj)
set_option maxRecDepth 100000 in
set_option maxHeartbeats 8000000 in
theorem add_done (b : Nat) (cs : Array Value) (A : Option Addr) (c : Nat) (xs : List Int) (s : Int) (w : World) (hd : Done cs) (hb : w.heap[b]? = some (.cells cs 53 (0, 0))) (hX : Kd.C (Kd.int .u8) w A xs.length xs) (hs0 : 0 ≤ s) (hs1 : s < 4294967296) :
    Calls Try.prog 16 #[.pointer (some ⟨b, 0, none⟩), .int .u32 s, .slice A xs.length c] w fun e w' => e = .returned (.int .u32 (crcAdd s xs)) ∧ w' = w := by
  have HX := Aside0.mk hX
  have HD := Aside0.mk hd
  have HB := Aside0.mk hb
  have hmf : ∀ (fn : Fn) (first cap : Array Value) (w : World), (Instr.makeFunc fn first cap).run Try.prog w = .ok (.func fn first cap) w := fun _ _ _ _ => rfl
  clear hX hd hb
  have htop : ∀ z : Bool, decide (0 < xs.length) = z → True := fun _ _ => trivial
  by_cases hz : 0 < xs.length
  all_goals have hz' := hz
  · have hz2 : decide (0 < xs.length) = true := decide_eq_true hz
    have hz3 : decide ((0 : Int) < (xs.length : Int)) = true := decide_eq_true (by omega)
    clear htop hz hz'
    go_enter Try.func16, Try.ntmps16
    go_wp2_with (go_at_call 24; refine (do_done b cs _ _ HB.out HD.out.zero).mono ?_; rintro e w' ⟨rfl, rfl⟩)
    go_loop [1, 8, 20] (fun t _ i => ∃ (k : Nat) (cur : Int), k ≤ xs.length ∧ 0 ≤ cur ∧ cur < 4294967296 ∧ i = .int .i64 k ∧ t = .int .u32 cur ∧ Aside0 (crcAdd cur (xs.drop k) = crcAdd s xs)) (fun _ _ i => xs.length - (intOf i).toNat)
    case atStart => exact ⟨0, s, Nat.zero_le _, hs0, hs1, rfl, rfl, ⟨by rw [List.drop_zero]⟩⟩
    case round =>
      obtain ⟨k, cur, hk, hc0, hc1, rfl, rfl, HR⟩ := hrel
      have hlen : xs.length ≤ 9223372036854775807 := HX.out.2.1
      by_cases hlt : k < xs.length
      · have p0 : 0 ≤ (k : Int) := by omega
        have q0 : (k : Int) < (xs.length : Int) := by omega
        have hlt' : decide ((k : Int) < (xs.length : Int)) = true := decide_eq_true q0
        have hlt2 : decide (k < xs.length) = true := decide_eq_true hlt
        obtain ⟨ad, e1, hx⟩ := Kd.at_int HX.out (k : Int) p0 q0
        cases e1
        obtain ⟨x, hxq⟩ : ∃ x : Int, rd xs (k : Int) = x := ⟨_, rfl⟩
        rw [hxq] at hx
        simp only [Int.toNat_natCast] at hx
        have HXQ := Aside0.mk hxq
        clear hxq
        obtain ⟨j, hj⟩ : ∃ j : Nat, Go.bits .xor .u8 (cur / 16777216) x = (j : Int) := ⟨(Go.bits .xor .u8 (cur / 16777216) x).toNat, by have := (xor8_rng (cur / 16777216) x).1; omega⟩
        have hj1 : (j : Int) < 256 := by have := (xor8_rng (cur / 16777216) x).2; omega
        have hj0 : (0 : Int) ≤ (j : Int) := by omega
        have hjn : j < 256 := by omega
        have ht := done_at HD.out HB.out hjn
        go_wp2
        go_round
        case rel =>
          refine ⟨k + 1, Go.bits .xor .u32 (cur * 256 % 4294967296) (crcTab (j : Int)), by omega, (xor32_rng _ _).1, (xor32_rng _ _).2, by go_num, rfl, ⟨?_⟩⟩
          rw [← HR.out, drop_cons_rd hlt, HXQ.out]
          simp only [crcAdd]
          rw [show cur / 16777216 % 256 = cur / 16777216 from by omega]
          rw [hj]
        case measure => simp [intOf]; omega
      · have hlt' : decide ((k : Int) < (xs.length : Int)) = false := decide_eq_false (by omega)
        have hlt2 : decide (k < xs.length) = false := decide_eq_false hlt
        have hkk : k = xs.length := by omega
        have HRR := Aside0.mk (show cur = crcAdd s xs by rw [← HR.out, hkk, List.drop_length]; rfl)
        clear hkk
        go_wp2
        go_ret
        exact ⟨by rw [HRR.out]; rfl, rfl⟩
  · have hz2 : decide (0 < xs.length) = false := decide_eq_false hz
    have hz3 : decide ((0 : Int) < (xs.length : Int)) = false := decide_eq_false (by omega)
    clear htop hz hz'
    go_enter Try.func16, Try.ntmps16
    go_wp2
    go_loop [1, 8, 20] (fun t _ i => ∃ (k : Nat) (cur : Int), k ≤ xs.length ∧ 0 ≤ cur ∧ cur < 4294967296 ∧ i = .int .i64 k ∧ t = .int .u32 cur ∧ Aside0 (crcAdd cur (xs.drop k) = crcAdd s xs)) (fun _ _ i => xs.length - (intOf i).toNat)
    case atStart => exact ⟨0, s, Nat.zero_le _, hs0, hs1, rfl, rfl, ⟨by rw [List.drop_zero]⟩⟩
    case round =>
      obtain ⟨k, cur, hk, hc0, hc1, rfl, rfl, HR⟩ := hrel
      have hlen : xs.length ≤ 9223372036854775807 := HX.out.2.1
      by_cases hlt : k < xs.length
      · have p0 : 0 ≤ (k : Int) := by omega
        have q0 : (k : Int) < (xs.length : Int) := by omega
        have hlt' : decide ((k : Int) < (xs.length : Int)) = true := decide_eq_true q0
        have hlt2 : decide (k < xs.length) = true := decide_eq_true hlt
        obtain ⟨ad, e1, hx⟩ := Kd.at_int HX.out (k : Int) p0 q0
        cases e1
        obtain ⟨x, hxq⟩ : ∃ x : Int, rd xs (k : Int) = x := ⟨_, rfl⟩
        rw [hxq] at hx
        simp only [Int.toNat_natCast] at hx
        have HXQ := Aside0.mk hxq
        clear hxq
        obtain ⟨j, hj⟩ : ∃ j : Nat, Go.bits .xor .u8 (cur / 16777216) x = (j : Int) := ⟨(Go.bits .xor .u8 (cur / 16777216) x).toNat, by have := (xor8_rng (cur / 16777216) x).1; omega⟩
        have hj1 : (j : Int) < 256 := by have := (xor8_rng (cur / 16777216) x).2; omega
        have hj0 : (0 : Int) ≤ (j : Int) := by omega
        have hjn : j < 256 := by omega
        have ht := done_at HD.out HB.out hjn
        go_wp2
        go_round
        case rel =>
          refine ⟨k + 1, Go.bits .xor .u32 (cur * 256 % 4294967296) (crcTab (j : Int)), by omega, (xor32_rng _ _).1, (xor32_rng _ _).2, by go_num, rfl, ⟨?_⟩⟩
          rw [← HR.out, drop_cons_rd hlt, HXQ.out]
          simp only [crcAdd]
          rw [show cur / 16777216 % 256 = cur / 16777216 from by omega]
          rw [hj]
        case measure => simp [intOf]; omega
      · have hlt' : decide ((k : Int) < (xs.length : Int)) = false := decide_eq_false (by omega)
        have hlt2 : decide (k < xs.length) = false := decide_eq_false hlt
        have hkk : k = xs.length := by omega
        have HRR := Aside0.mk (show cur = crcAdd s xs by rw [← HR.out, hkk, List.drop_length]; rfl)
        clear hkk
        go_wp2
        go_ret
        exact ⟨by rw [HRR.out]; rfl, rfl⟩
set_option maxRecDepth 100000 in
set_option maxHeartbeats 8000000 in
theorem add_first (b : Nat) (cs : Array Value) (A : Option Addr) (c : Nat) (xs : List Int) (s : Int) (w : World) (hd : Fresh cs) (hb : w.heap[b]? = some (.cells cs 53 (0, 0))) (hX : Kd.C (Kd.int .u8) w A xs.length xs) (hs0 : 0 ≤ s) (hs1 : s < 4294967296) (hf : ∀ ad, A = some ad → 0 < xs.length → ad.block ≠ b) (hz : 0 < xs.length) :
    Calls Try.prog 16 #[.pointer (some ⟨b, 0, none⟩), .int .u32 s, .slice A xs.length c] w fun e w' => e = .returned (.int .u32 (crcAdd s xs)) ∧ (w.grownBy w' (some b) ∧ w'.heap[b]? = some (.cells (made cs) 53 (0, 0))) := by
  have HX0 := Aside0.mk hX
  have HF := Aside0.mk hf
  have HD := Aside0.mk (made_done hd)
  have FR := Aside0.mk hd
  have HB := Aside0.mk hb
  have hmf : ∀ (fn : Fn) (first cap : Array Value) (w : World), (Instr.makeFunc fn first cap).run Try.prog w = .ok (.func fn first cap) w := fun _ _ _ _ => rfl
  have hz2 : decide (0 < xs.length) = true := decide_eq_true hz
  have hz3 : decide ((0 : Int) < (xs.length : Int)) = true := decide_eq_true (by omega)
  clear hX hd hb hz hf
  go_enter Try.func16, Try.ntmps16
  go_wp2_with (go_at_call 24; refine (do_first b cs _ FR.out.size HB.out FR.out.zero FR.out.one).mono ?_; rintro e w1 ⟨rfl, hg, hc⟩; have HG := Aside0.mk hg; have HC := Aside0.mk hc; have HX := Aside0.mk (C_far HX0.out HF.out hg); clear hg hc)
  go_loop [1, 8, 20] (fun t _ i => ∃ (k : Nat) (cur : Int), k ≤ xs.length ∧ 0 ≤ cur ∧ cur < 4294967296 ∧ i = .int .i64 k ∧ t = .int .u32 cur ∧ Aside0 (crcAdd cur (xs.drop k) = crcAdd s xs)) (fun _ _ i => xs.length - (intOf i).toNat)
  case atStart => exact ⟨0, s, Nat.zero_le _, hs0, hs1, rfl, rfl, ⟨by rw [List.drop_zero]⟩⟩
  case round =>
    obtain ⟨k, cur, hk, hc0, hc1, rfl, rfl, HR⟩ := hrel
    have hlen : xs.length ≤ 9223372036854775807 := HX.out.2.1
    by_cases hlt : k < xs.length
    · have p0 : 0 ≤ (k : Int) := by omega
      have q0 : (k : Int) < (xs.length : Int) := by omega
      have hlt' : decide ((k : Int) < (xs.length : Int)) = true := decide_eq_true q0
      have hlt2 : decide (k < xs.length) = true := decide_eq_true hlt
      obtain ⟨ad, e1, hx⟩ := Kd.at_int HX.out (k : Int) p0 q0
      cases e1
      obtain ⟨x, hxq⟩ : ∃ x : Int, rd xs (k : Int) = x := ⟨_, rfl⟩
      rw [hxq] at hx
      simp only [Int.toNat_natCast] at hx
      have HXQ := Aside0.mk hxq
      clear hxq
      obtain ⟨j, hj⟩ : ∃ j : Nat, Go.bits .xor .u8 (cur / 16777216) x = (j : Int) := ⟨(Go.bits .xor .u8 (cur / 16777216) x).toNat, by have := (xor8_rng (cur / 16777216) x).1; omega⟩
      have hj1 : (j : Int) < 256 := by have := (xor8_rng (cur / 16777216) x).2; omega
      have hj0 : (0 : Int) ≤ (j : Int) := by omega
      have hjn : j < 256 := by omega
      have ht := done_at HD.out HC.out hjn
      go_wp2
      go_round
      case rel =>
        refine ⟨k + 1, Go.bits .xor .u32 (cur * 256 % 4294967296) (crcTab (j : Int)), by omega, (xor32_rng _ _).1, (xor32_rng _ _).2, by go_num, rfl, ⟨?_⟩⟩
        rw [← HR.out, drop_cons_rd hlt, HXQ.out]
        simp only [crcAdd]
        rw [show cur / 16777216 % 256 = cur / 16777216 from by omega]
        rw [hj]
      case measure => simp [intOf]; omega
    · have hlt' : decide ((k : Int) < (xs.length : Int)) = false := decide_eq_false (by omega)
      have hlt2 : decide (k < xs.length) = false := decide_eq_false hlt
      have hkk : k = xs.length := by omega
      have HRR := Aside0.mk (show cur = crcAdd s xs by rw [← HR.out, hkk, List.drop_length]; rfl)
      clear hkk
      go_wp2
      go_ret
      exact ⟨by rw [HRR.out]; rfl, HG.out, HC.out⟩
theorem add_nil (b : Nat) (A : Option Addr) (c : Nat) (s : Int) (w : World) :
    Calls Try.prog 16 #[.pointer (some ⟨b, 0, none⟩), .int .u32 s, .slice A 0 c] w fun e w' => e = .returned (.int .u32 s) ∧ w' = w := by
  go_enter Try.func16, Try.ntmps16
  go_wp2
  refine wp_loop_rounds 1 ?_
  rw [rounds_succ]
  go_wp2
  go_ret
  exact ⟨rfl, rfl⟩
end Go.Proofs.Ytfoalonjlhemmaa.Crc
end
section
namespace Go.Proofs.Ytfoalonjlhemmaa.Crc
open Go.RowKit Go.Proofs.YtfoalonjlhemmaaW.PrintWords Go.Proofs.YtfoalonjlhemmaaW.PrintLast Go.Proofs.YtfoalonjlhemmaaW.PrintMore Go.Proofs.Ytfoalonjlhemmaa.Mth Go.Proofs.Ytfoalonjlhemmaa.QC
set_option linter.unusedVariables false
set_option linter.unusedSimpArgs false
def zc : Array Value := #[.int .u32 0, .int .i32 0, .int .u32 0, .bool false] ++ Array.replicate 256 (.int .u32 0)
theorem zc_low (j : Nat) (hj : j < 4) : zc[j]? = (#[.int .u32 0, .int .i32 0, .int .u32 0, .bool false] : Array Value)[j]? := by
  unfold zc
  rw [Array.getElem?_append_left (by simpa using hj)]
theorem zc_fresh : Fresh zc := ⟨by simp only [zc, Array.size_append, Array.size_replicate]; rfl, zc_low 0 (by omega), zc_low 1 (by omega), zc_low 3 (by omega)⟩
theorem zv (w : World) : Sem.run Try.prog (zeroValue 53) w = .ok (.agg zc) w := by kernel_rfl
attribute [local go_sem] zv
set_option maxRecDepth 100000 in
set_option maxHeartbeats 4000000 in
theorem new_calls (w : World) : Calls Try.prog 10 #[] w fun e w' => e = .returned (.pointer (some ⟨w.heap.size, 0, none⟩)) ∧ w' = w.alloc (.cells zc 53 (0, 0)) := by
  go_enter Try.func10, Try.ntmps10
  go_wp2
  go_ret
  exact ⟨rfl, by first | rfl | kernel_rfl⟩
theorem new_block (w : World) : (w.alloc (.cells zc 53 (0, 0))).heap[w.heap.size]? = some (.cells zc 53 (0, 0)) := by
  show (w.heap.push _)[w.heap.size]? = _
  exact Array.getElem?_push_size
set_option maxRecDepth 100000 in
set_option maxHeartbeats 4000000 in
theorem sum_done (b : Nat) (cs : Array Value) (A : Option Addr) (c : Nat) (xs : List Int) (w : World) (hd : Done cs) (hb : w.heap[b]? = some (.cells cs 53 (0, 0))) (hX : Kd.C (Kd.int .u8) w A xs.length xs) :
    Calls Try.prog 11 #[.pointer (some ⟨b, 0, none⟩), .slice A xs.length c] w fun e w' => e = .returned (.int .u32 (crcSum xs)) ∧ w' = w := by
  have AD := Aside0.mk (add_done b cs A c xs 4294967295 w hd hb hX (by omega) (by omega))
  clear hd hb hX
  go_enter Try.func11, Try.ntmps11
  go_wp2_with (go_at_call 16; refine AD.out.mono ?_; rintro e w' ⟨rfl, rfl⟩)
  go_ret
  exact ⟨rfl, rfl⟩
set_option maxRecDepth 100000 in
set_option maxHeartbeats 4000000 in
theorem sum_first (b : Nat) (cs : Array Value) (A : Option Addr) (c : Nat) (xs : List Int) (w : World) (hd : Fresh cs) (hb : w.heap[b]? = some (.cells cs 53 (0, 0))) (hX : Kd.C (Kd.int .u8) w A xs.length xs) (hf : ∀ ad, A = some ad → 0 < xs.length → ad.block ≠ b) (hz : 0 < xs.length) :
    Calls Try.prog 11 #[.pointer (some ⟨b, 0, none⟩), .slice A xs.length c] w fun e w' => e = .returned (.int .u32 (crcSum xs)) ∧ (w.grownBy w' (some b) ∧ w'.heap[b]? = some (.cells (made cs) 53 (0, 0))) := by
  have AD := Aside0.mk (add_first b cs A c xs 4294967295 w hd hb hX (by omega) (by omega) hf hz)
  clear hd hb hX hf hz
  go_enter Try.func11, Try.ntmps11
  go_wp2_with (go_at_call 16; refine AD.out.mono ?_; rintro e w' ⟨rfl, hg, hc⟩; have HG := Aside0.mk hg; have HC := Aside0.mk hc; clear hg hc)
  go_ret
  exact ⟨rfl, HG.out, HC.out⟩
set_option maxRecDepth 100000 in
set_option maxHeartbeats 4000000 in
theorem sum_nil (b : Nat) (A : Option Addr) (c : Nat) (w : World) :
    Calls Try.prog 11 #[.pointer (some ⟨b, 0, none⟩), .slice A 0 c] w fun e w' => e = .returned (.int .u32 (crcSum [])) ∧ w' = w := by
  go_enter Try.func11, Try.ntmps11
  go_wp2_with (go_at_call 16; refine (add_nil b A c 4294967295 w).mono ?_; rintro e w' ⟨rfl, rfl⟩)
  go_ret
  exact ⟨rfl, rfl⟩
end Go.Proofs.Ytfoalonjlhemmaa.Crc
end
