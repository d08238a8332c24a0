import Derived.Test.YtigkcigoiinkpaaProg
import Derived.Below
import Derived.Deep.Draws
import Derived.Deep.AppendLies
import Derived.Maps.AppendAt
import Derived.OwnWalk
import Derived.Laws.BytesArg
import Derived.Laws.MakeOwn
import Derived.Laws.OwnMore
import Derived.Deep.OwnRows
import Derived.Tactics
import Derived.Lib.ConvBytes
import Derived.Laws.Slices
import Derived.WalkKit
import Derived.KernelRfl
import Derived.RowKit3
import Derived.Deep.LoopGhost
import Derived.Deep.QuietTactic
import Derived.BigQuiet
import Derived.WideLaws
import Derived.Deep.DeepCutAuto
import Derived.Deep.CutBlock
import Derived.Deep.RegionHeld3
import Derived.Laws.Rows
import Derived.Lib.AppendStr
import Derived.ArgAppend
import Derived.Laws.IdiomCopy
import Derived.OrdersHeld
import Derived.Laws.BitsLemmas
import Derived.RowKit
import Derived.Tactics2
import Derived.Defers
import Derived.Laws.Pointers
import Derived.Laws.LoneSync
import Derived.RegionTactic
import Derived.RegionCalls
import Derived.ChangeAlike
import Derived.StillTailTactics
import Derived.Deep.RegionWith
import Derived.Laws.NewBlocks
import Derived.Test.YtigkcigoiinkpaaZWWords
import Derived.Test.YtigkcigoiinkpaaZW
section
namespace Go.Proofs.Ytigkcigoiinkpaa.QC
open Go.RowKit Go.Proofs.YtigkcigoiinkpaaW.PrintWords Go.Proofs.YtigkcigoiinkpaaW.PrintLast Go.Proofs.YtigkcigoiinkpaaW.PrintMore
attribute [local go_sem] max2_int min2_int max_two min_two max_three min_three max_four min_four
set_option linter.unusedVariables false
set_option linter.unusedSimpArgs false
abbrev am_:=@Aside0.mk
end Go.Proofs.Ytigkcigoiinkpaa.QC
end
section
namespace Go.Proofs.Ytigkcigoiinkpaa.QC
open Go.RowKit Go.Proofs.YtigkcigoiinkpaaW.PrintWords Go.Proofs.YtigkcigoiinkpaaW.PrintLast Go.Proofs.YtigkcigoiinkpaaW.PrintMore
attribute [local go_sem] max2_int min2_int max_two min_two max_three min_three max_four min_four
set_option linter.unusedVariables false
set_option linter.unusedSimpArgs false
def crc_step.l0 : Nat → Int → Int → Option (Int)
  | 0,_,_=>none
  | k + 1,x0,x4=>if x4 < 8 then (if (x0 / 2147483648) = 1 then (crc_step.l0 k (Go.bits .xor .u32 ((x0 * 2) % 4294967296) 79764919) (wrap64 (x4 + 1))) else (crc_step.l0 k ((x0 * 2) % 4294967296) (wrap64 (x4 + 1)))) else (some x0)
def crc_step.f (k : Nat) (a0 : Int) : Option (Int):=crc_step.l0 k a0 0
theorem crc_step.mono_l : ∀ k,(∀ y0 y1,LeO (crc_step.l0 k y0 y1) (crc_step.l0 (k + 1) y0 y1))
  | 0=>fun _ _ r h=>by simp [crc_step.l0] at h
  | k + 1=>by
    have ih0:=crc_step.mono_l k
    · intro y0 y1
      unfold crc_step.l0
      repeat' first
      | (with_reducible exact ih0 _ _)
      | (with_reducible exact LeO.refl _)
      | (with_reducible exact LeO.none _)
      | (with_reducible refine LeO.ite ?_ ?_)
      | (with_reducible refine LeO.bind ?_ (fun _=>?_))
      | exact ih0 _ _
      | exact LeO.none _
      | refine LeO.ite ?_ ?_
      | refine LeO.bind ?_ (fun _=>?_)
theorem crc_step.mono : ∀ a0 k,LeO (crc_step.f k a0) (crc_step.f (k + 1) a0):=by
  intro a0 k
  have ih0:=crc_step.mono_l k
  unfold crc_step.f
  repeat' first
      | (with_reducible exact ih0 _ _)
      | (with_reducible exact LeO.refl _)
      | (with_reducible exact LeO.none _)
      | (with_reducible refine LeO.ite ?_ ?_)
      | (with_reducible refine LeO.bind ?_ (fun _=>?_))
      | exact ih0 _ _
      | exact LeO.none _
      | refine LeO.ite ?_ ?_
      | refine LeO.bind ?_ (fun _=>?_)
set_option maxHeartbeats 8000000 in
set_option maxRecDepth 100000 in
theorem crc_step.calls (k : Nat) (a0 : Int) (r : Int) (w : World) (h : crc_step.f k a0 = some r) :
    Calls Try.prog 91 #[.int .u32 a0] w fun e w'=>e = .returned (.int .u32 r) ∧ Drawn0 w w':=by
  have H : (crc_step.l0 k a0 0) = some r:=h
  clear h
  have H':=am_ H
  clear H
  go_enter Try.func91,Try.ntmps91
  go_wp2
  go_loopg [0,4] k (fun kq v0 v4 w'=>∃ (x0_1 : Int) (x4_1 : Int),v0 = .int .u32 x0_1 ∧ v4 = .int .i64 x4_1 ∧ Aside0 (crc_step.l0 kq x0_1 x4_1 = some r) ∧ Aside0 (kq ≤ k) ∧ Drawn0 w w')
  case atStart=>exact ⟨(a0),(0),(by first|rfl|(simp;done)|(simp [*];done)),(by first|rfl|(simp;done)|(simp [*];done)),H',⟨Nat.le_refl _⟩,by repeat (first|exact Drawn0.refl _|apply Drawn0.step)⟩
  case round =>
    clear H'
    obtain ⟨x0_1,x4_1,rfl,rfl,HA,HK1,⟨m1,rfl⟩⟩:=hrel
    cases gk with
    | zero=>exact absurd HA.out (by simp [crc_step.l0])
    | succ k1 =>
      have H:=HA.out
      clear HA
      simp only [crc_step.l0] at H
      by_cases c2 : x4_1 < 8
      · rw [if_pos c2] at H
        have c2b0 : decide (x4_1 < 8) = true:=decide_eq_true c2
        clear c2
        by_cases c3 : (x0_1 / 2147483648) = 1
        · rw [if_pos c3] at H
          have c3b0 : ((x0_1 / 2147483648) == 1) = true:=beq_iff_eq.mpr c3
          have c3b1 : ((x0_1 / 2147483648) != 1) = false:=bne_eq_false_iff_eq.mpr c3
          clear c3
          have H':=am_ H
          clear H
          go_wp2
          go_roundg k1
          case measure=>have:=HK1.out;omega
          case rel=>exact ⟨(Go.bits .xor .u32 ((x0_1 * 2) % 4294967296) 79764919),(wrap64 (x4_1 + 1)),(by first|rfl|(simp;done)|(simp [*];done)),(by first|rfl|(simp;done)|(simp [*];done)),H',⟨by have:=HK1.out;omega⟩,by repeat (first|exact Drawn0.refl _|apply Drawn0.step)⟩
        · rw [if_neg c3] at H
          have c3b0 : ((x0_1 / 2147483648) == 1) = false:=beq_eq_false_iff_ne.mpr c3
          have c3b1 : ((x0_1 / 2147483648) != 1) = true:=bne_iff_ne.mpr c3
          have H':=am_ H
          clear H
          go_wp2
          go_roundg k1
          case measure=>have:=HK1.out;omega
          case rel=>exact ⟨((x0_1 * 2) % 4294967296),(wrap64 (x4_1 + 1)),(by first|rfl|(simp;done)|(simp [*];done)),(by first|rfl|(simp;done)|(simp [*];done)),H',⟨by have:=HK1.out;omega⟩,by repeat (first|exact Drawn0.refl _|apply Drawn0.step)⟩
      · rw [if_neg c2] at H
        have c2b0 : decide (x4_1 < 8) = false:=decide_eq_false c2
        clear c2
        obtain rfl:=Option.some.inj H
        go_wp2
        go_ret
        exact ⟨by first|rfl|(simp;done)|(simp [*];done),by repeat (first|exact Drawn0.refl _|apply Drawn0.step)⟩
end Go.Proofs.Ytigkcigoiinkpaa.QC
end
section
namespace Go.Proofs.Ytigkcigoiinkpaa.Mth
open Go.RowKit Go.Proofs.YtigkcigoiinkpaaW.PrintWords Go.Proofs.YtigkcigoiinkpaaW.PrintLast Go.Proofs.YtigkcigoiinkpaaW.PrintMore
set_option linter.unusedVariables false
set_option linter.unusedSimpArgs false
def leB : Nat → Int → List Int
  | 0,_=>[]
  | w + 1,n=>n % 256 :: leB w (n / 256)
def leV : List Int → Int
  | []=>0
  | b :: l=>b + 256 * leV l
def Byt (l : List Int) : Prop:=∀ x ∈ l,0 ≤ x ∧ x < 256
theorem leB_length : ∀ w n,(leB w n).length = w
  | 0,_=>rfl
  | w + 1,n=>by simp [leB,leB_length w]
theorem leB_byt : ∀ w n,Byt (leB w n)
  | 0,_=>by intro x h;simp [leB] at h
  | w + 1,n=>by
    intro x h
    simp only [leB,List.mem_cons] at h
    rcases h with h|h
    · subst h;omega
    · exact leB_byt w _ x h
theorem byt_nil : Byt []:=fun x h=>by simp at h
theorem byt_cons {b : Int} {l : List Int} (hb : 0 ≤ b ∧ b < 256) (hl : Byt l) : Byt (b :: l):=by
  intro x h
  rcases List.mem_cons.1 h with h|h
  · subst h;exact hb
  · exact hl x h
theorem byt_append {l m : List Int} (h : Byt l) (k : Byt m) : Byt (l ++ m):=by
  intro x hx
  rcases List.mem_append.1 hx with hx|hx
  · exact h x hx
  · exact k x hx
theorem byt_take {l : List Int} (h : Byt l) (n : Nat) : Byt (l.take n):=fun x hx=>h x (List.mem_of_mem_take hx)
theorem byt_drop {l : List Int} (h : Byt l) (n : Nat) : Byt (l.drop n):=fun x hx=>h x (List.mem_of_mem_drop hx)
theorem byt_replicate (n : Nat) : Byt (List.replicate n 0):=fun x hx=>by rw [List.eq_of_mem_replicate hx];omega
theorem p256_pos (w : Nat) : (0 : Int) < 256 ^ w:=Int.pow_pos (by omega)
theorem p256_succ (w : Nat) : (256 : Int) ^ (w + 1) = 256 * 256 ^ w:=by rw [Int.pow_succ,Int.mul_comm]
theorem p256_mono {a b : Nat} (h : a ≤ b) : (256 : Int) ^ a ≤ 256 ^ b:=by
  obtain ⟨d,rfl⟩:=Nat.exists_eq_add_of_le h
  rw [Int.pow_add]
  have h1:=p256_pos a
  have h2:=p256_pos d
  have:=Int.mul_le_mul_of_nonneg_left (show (1 : Int) ≤ 256 ^ d by omega) (Int.le_of_lt h1)
  omega
theorem leV_bound {l : List Int} (h : Byt l) : 0 ≤ leV l ∧ leV l < 256 ^ l.length:=by
  induction l with
  | nil=>simp [leV]
  | cons b l ih =>
    obtain ⟨h1,h2⟩:=ih (fun x hx=>h x (List.mem_cons_of_mem _ hx))
    have hb:=h b (List.mem_cons_self ..)
    simp only [leV,List.length_cons,p256_succ]
    omega
theorem leV_leB : ∀ (w : Nat) (n : Int),0 ≤ n → leV (leB w n) = n % 256 ^ w
  | 0,n,_=>by simp [leB,leV,Int.emod_one]
  | w + 1,n,h=>by
    have ih:=leV_leB w (n / 256) (by omega)
    simp only [leB,leV,ih,p256_succ]
    have hp:=p256_pos w
    have e1 : n / 256 % 256 ^ w = n / 256 - 256 ^ w * (n / (256 * 256 ^ w)):=by
      rw [Int.emod_def,Int.ediv_ediv_of_nonneg (by omega)]
    have e2 : n % (256 * 256 ^ w) = n - 256 * 256 ^ w * (n / (256 * 256 ^ w)):=Int.emod_def ..
    rw [e1,e2,Int.mul_assoc]
    generalize 256 ^ w * (n / (256 * 256 ^ w)) = z
    omega
theorem leV_leB_small {w : Nat} {n : Int} (h : 0 ≤ n) (h1 : n < 256 ^ w) : leV (leB w n) = n:=by
  rw [leV_leB w n h,Int.emod_eq_of_lt h h1]
theorem leB_get : ∀ (w : Nat) (n : Int) (i : Nat),i < w → (leB w n).getD i 0 = n / 256 ^ i % 256
  | 0,_,_,h=>by omega
  | w + 1,n,0,_=>by simp [leB]
  | w + 1,n,i + 1,h=>by
    simp only [leB,List.getD_cons_succ]
    rw [leB_get w (n / 256) i (by omega),p256_succ,Int.ediv_ediv_of_nonneg (by omega)]
theorem leV_drop_succ {l : List Int} {i : Nat} (h : i < l.length) : leV (l.drop i) = l.getD i 0 + 256 * leV (l.drop (i + 1)):=by
  rw [List.drop_eq_getElem_cons h]
  simp [leV,List.getD_eq_getElem?_getD,List.getElem?_eq_getElem h]
def takeL : List Int → List Int → Option (List Int)
  | _,[]=>some []
  | b,w :: ws=>if w < 0 ∨ 7 < w ∨ (b.length : Int) < w then none else (takeL (b.drop w.toNat) ws).map (leV (b.take w.toNat) :: ·)
theorem wraps_i64 (n : Int) (h0 : 0 ≤ n) (h1 : n < 2 ^ 63) : IntKind.i64.wrap n = n:=by
  have e : IntKind.i64.wrap n = wrap64 n:=by rw [i64_w]
  rw [e];unfold wrap64;omega
theorem or256 {x y : Int} (hx : 0 ≤ x) (hx1 : x < 2 ^ 55) (hy : 0 ≤ y) (hy1 : y < 256) : Go.bits .or .i64 (x * 256) y = x * 256 + y :=
  Go.bits_join .i64 63 (by decide) wraps_i64 8 (x * 256) y (by omega) (by omega) (by omega) hy (by omega) (by omega)
theorem w64 {x : Int} (h0 : -9223372036854775808 ≤ x) (h1 : x ≤ 9223372036854775807) : wrap64 x = x:=by unfold wrap64;omega
end Go.Proofs.Ytigkcigoiinkpaa.Mth
end
section
namespace Go.Proofs.Ytigkcigoiinkpaa.QC
open Go.RowKit Go.Proofs.YtigkcigoiinkpaaW.PrintWords Go.Proofs.YtigkcigoiinkpaaW.PrintLast Go.Proofs.YtigkcigoiinkpaaW.PrintMore Go.Proofs.Ytigkcigoiinkpaa.Mth
set_option linter.unusedVariables false
set_option linter.unusedSimpArgs false
def crcOne (s : Int) : Int:=if s / 2147483648 = 1 then Go.bits .xor .u32 ((s * 2) % 4294967296) 79764919 else (s * 2) % 4294967296
def crcOnes : Nat → Int → Int
  | 0,s=>s
  | n + 1,s=>crcOnes n (crcOne s)
def crcTab (i : Int) : Int:=crcOnes 8 ((i * 16777216) % 4294967296)
def crcAdd : Int → List Int → Int
  | s,[]=>s
  | s,c :: l=>crcAdd (Go.bits .xor .u32 ((s * 256) % 4294967296) (crcTab (Go.bits .xor .u8 ((s / 16777216) % 256) c))) l
def crcSum (l : List Int) : Int:=crcAdd 4294967295 l
def sumB (l : List Int) : List Int:=[crcSum l / 16777216 % 256,crcSum l / 65536 % 256,crcSum l / 256 % 256,crcSum l % 256]
theorem u32wrap (n : Int) : 0 ≤ IntKind.u32.wrap n ∧ IntKind.u32.wrap n < 4294967296:=by
  simp only [IntKind.wrap,IntKind.bits,IntKind.signed]
  simp
  omega
theorem u8wrap (n : Int) : 0 ≤ IntKind.u8.wrap n ∧ IntKind.u8.wrap n < 256:=by
  simp only [IntKind.wrap,IntKind.bits,IntKind.signed]
  simp
  omega
theorem xor32_rng (a b : Int) : 0 ≤ Go.bits .xor .u32 a b ∧ Go.bits .xor .u32 a b < 4294967296:=u32wrap _
theorem xor8_rng (a b : Int) : 0 ≤ Go.bits .xor .u8 a b ∧ Go.bits .xor .u8 a b < 256:=u8wrap _
theorem crcOne_rng (s : Int) : 0 ≤ crcOne s ∧ crcOne s < 4294967296:=by
  unfold crcOne
  split
  · exact xor32_rng _ _
  · omega
theorem crcOnes_rng : ∀ (n : Nat) (s : Int),0 ≤ s → s < 4294967296 → 0 ≤ crcOnes n s ∧ crcOnes n s < 4294967296
  | 0,s,h0,h1=>⟨h0,h1⟩
  | n + 1,s,_,_=>crcOnes_rng n _ (crcOne_rng s).1 (crcOne_rng s).2
theorem crcAdd_rng : ∀ (l : List Int) (s : Int),0 ≤ s → s < 4294967296 → 0 ≤ crcAdd s l ∧ crcAdd s l < 4294967296
  | [],s,h0,h1=>⟨h0,h1⟩
  | c :: l,s,_,_=>crcAdd_rng l _ (xor32_rng _ _).1 (xor32_rng _ _).2
theorem crcSum_rng (l : List Int) : 0 ≤ crcSum l ∧ crcSum l < 4294967296:=crcAdd_rng l _ (by omega) (by omega)
theorem sumB_byt (l : List Int) : Byt (sumB l):=by
  intro x h
  simp only [sumB,List.mem_cons,List.not_mem_nil,or_false] at h
  rcases h with rfl|rfl|rfl|rfl <;> omega
theorem sumB_length (l : List Int) : (sumB l).length = 4:=rfl
theorem step_l0 (d : Nat) : ∀ (s : Int) (i : Nat),i + d = 8 → Ev (fun k=>crc_step.l0 k s (i : Int)) (crcOnes d s):=by
  induction d with
  | zero =>
    intro s i h
    refine Ev.step (f:=fun _=>some s) (fun k=>?_) ⟨0,fun _ _=>rfl⟩
    simp only [crc_step.l0]
    rw [if_neg (by omega)]
  | succ d ih =>
    intro s i h
    refine Ev.step (fun k=>?_) (ih (crcOne s) (i + 1) (by omega))
    simp only [crc_step.l0]
    rw [if_pos (by omega),w64 (by omega) (by omega)]
    unfold crcOne
    by_cases c : s / 2147483648 = 1
    · rw [if_pos c,if_pos c];rfl
    · rw [if_neg c,if_neg c];rfl
theorem step_ev (s : Int) : Ev (fun k=>crc_step.f k s) (crcOnes 8 s):=by
  have h:=step_l0 8 s 0 rfl
  exact Ev.congr (fun k=>by unfold crc_step.f;rfl) h
theorem step_calls (s : Int) (w : World) : Calls Try.prog 91 #[.int .u32 s] w fun e w'=>e = .returned (.int .u32 (crcOnes 8 s)) ∧ Drawn0 w w':=by
  obtain ⟨k,h⟩:=(step_ev s).rounds
  exact crc_step.calls k s _ w h
end Go.Proofs.Ytigkcigoiinkpaa.QC
end
section
namespace Go.Proofs.Ytigkcigoiinkpaa.Crc
open Go.Proofs.YtigkcigoiinkpaaW.PrintWords
set_option linter.unusedVariables false
set_option linter.unusedSimpArgs false
theorem disable (w : World) : (callFunc 100 #[]).run Try.prog w = .ok (.value (.tuple #[])) w:=run_call_mark0 Try.func100 (by kernel_rfl) (by kernel_rfl) (by kernel_rfl) .disable (by kernel_rfl) w
theorem enable (w : World) : (callFunc 102 #[]).run Try.prog w = .ok (.value (.tuple #[])) w:=run_call_mark0 Try.func102 (by kernel_rfl) (by kernel_rfl) (by kernel_rfl) .enable (by kernel_rfl) w
theorem acquire (a : Addr) (w : World) : (callFunc 103 #[.pointer (some a)]).run Try.prog w = .ok (.value (.tuple #[])) w:=run_call_marked Try.func103 (by kernel_rfl) (by kernel_rfl) (by kernel_rfl) .acquire (by kernel_rfl) a w
theorem releaseMerge (a : Addr) (w : World) : (callFunc 105 #[.pointer (some a)]).run Try.prog w = .ok (.value (.tuple #[])) w:=run_call_marked Try.func105 (by kernel_rfl) (by kernel_rfl) (by kernel_rfl) .releaseMerge (by kernel_rfl) a w
theorem store_deferred (a : Addr) (x : Value) (u : FrameMode) (w : World) (hc : w.cell? a = some x) (hz : w.frozen? a = false) :
    CallsD Try.prog 95 #[.pointer (some a),.bool true] u w fun e u' w'=>u' = u ∧ (e = .returned (.tuple #[]) ∧ w' = w.drew.setCell a (.int .u32 1)):=by
  have hc' : w.drew.cell? a = some x:=by go_simp
  have hz' : w.drew.frozen? a = false:=by go_simp
  have hst:=run_call_store (P:=Try.prog) Try.func98 (by kernel_rfl) (by kernel_rfl) (by kernel_rfl) (by kernel_rfl) (k:=.u32) (y:=1) hc' hz'
  go_enter_d Try.func95,Try.ntmps95
  go_wp2
  go_region_calls
  all_goals (go_end0;exact ⟨rfl,rfl⟩)
set_option maxRecDepth 100000 in
set_option maxHeartbeats 1600000 in
theorem unlock_deferred (a : Addr) (u : FrameMode) (w : World) (hc : w.cell? a = some (.int .i32 1)) (hz : w.frozen? a = false) :
    CallsD Try.prog 94 #[.pointer (some a)] u w fun e u' w'=>u' = u ∧ (e = .returned (.tuple #[]) ∧ w' = w.setCell a (.int .i32 0)):=by
  have hd:=disable
  have he:=enable
  have hr:=releaseMerge
  have hadd:=run_call_add (P:=Try.prog) Try.func106 (by kernel_rfl) (by kernel_rfl) (by kernel_rfl) .i32 (by kernel_rfl) (y:=-1) (s:=0) hc hz (by simp [go_sem];rfl)
  have hcv:=run_convert_to_unsafe (P:=Try.prog) (src:=145) (dst:=149) Try.underlying145 Try.underlying149 (by kernel_rfl) hc
  go_enter_d Try.func94,Try.ntmps94
  go_wp2
  go_end0
  go_wp2
  go_end0
  exact ⟨rfl,rfl⟩
set_option maxRecDepth 100000 in
set_option maxHeartbeats 1600000 in
theorem lock_free (a : Addr) (w : World) (hc : w.cell? a = some (.int .i32 0)) (hz : w.frozen? a = false) :
    Calls Try.prog 93 #[.pointer (some a)] w fun e w'=>e = .returned (.tuple #[]) ∧ w' = w.setCell a (.int .i32 1):=by
  have hd:=disable
  have he:=enable
  have ha:=acquire
  have hcas:=run_call_cas_hit (P:=Try.prog) Try.func101 (by kernel_rfl) (by kernel_rfl) (by kernel_rfl) .i32 (by kernel_rfl) (y:=1) hc hz
  have hc' : (w.setCell a (.int .i32 1)).cell? a = some (.int .i32 1):=World.cell?_setCell_same w a _ hc
  have hcv:=run_convert_to_unsafe (P:=Try.prog) (src:=145) (dst:=149) Try.underlying145 Try.underlying149 (by kernel_rfl) hc'
  go_enter Try.func93,Try.ntmps93
  go_wp2
  first|go_end0|(simp only [Exit.inBlock,Exit.then];refine bodyPost_ret (results_none rfl _ _ _) rfl ?_)|refine bodyPost_ret (results_none rfl _ _ _) rfl ?_
  go_wp2
  go_end0
  exact ⟨rfl,rfl⟩
end Go.Proofs.Ytigkcigoiinkpaa.Crc
end
section
namespace Go.Proofs.Ytigkcigoiinkpaa.Crc
open Go.RowKit Go.Proofs.YtigkcigoiinkpaaW.PrintWords Go.Proofs.YtigkcigoiinkpaaW.PrintLast Go.Proofs.YtigkcigoiinkpaaW.PrintMore Go.Proofs.Ytigkcigoiinkpaa.Mth Go.Proofs.Ytigkcigoiinkpaa.QC
set_option linter.unusedVariables false
set_option linter.unusedSimpArgs false
def laid (cs : Array Value) : Nat → Array Value
  | 0=>cs
  | n + 1=>(laid cs n).setIfInBounds (4 + n) (.int .u32 (crcTab (n : Int)))
theorem laid_size (cs : Array Value) : ∀ n,(laid cs n).size = cs.size
  | 0=>rfl
  | n + 1=>by simp [laid,laid_size cs n]
theorem drawn_block {w w' : World} {b : Nat} {o : Obj} (hd : Drawn0 w w') (h : w.heap[b]? = some o) : w'.heap[b]? = some o:=by
  obtain ⟨n,rfl⟩:=hd.out;exact h
theorem drawn_grown {w0 w w' : World} {r : Option Nat} (hd : Drawn0 w w') (h : w0.grownBy w r) : w0.grownBy w' r:=by
  obtain ⟨n,rfl⟩:=hd.out;exact ⟨h.os,h.tape,h.output,h.size,h.block⟩
theorem drew_grown {w0 w : World} {r : Option Nat} (h : w0.grownBy w r) : w0.grownBy w.drew r:=⟨h.os,h.tape,h.output,h.size,h.block⟩
theorem set_grown {w0 w : World} {b : Nat} (h : w0.grownBy w (some b)) (j : Nat) (v : Value) : w0.grownBy (w.setCell ⟨b,j,none⟩ v) (some b) :=
  ⟨h.os,h.tape,h.output,by rw [Go.Deep.nblk_setCell];exact h.size,fun i hi hne=>by
    rw [← h.block i hi hne]
    exact Below.heap_setCell w ⟨b,j,none⟩ v i (fun e=>hne (by rw [e]))⟩
theorem htabk (k : Nat) (h : k < 256) : crcOnes 8 ((k : Int) % 4294967296 * 16777216 % 4294967296) = crcTab (k : Int):=by
  unfold crcTab
  rw [Int.emod_eq_of_lt (show (0 : Int) ≤ k by omega) (by omega)]
set_option maxRecDepth 100000 in
set_option maxHeartbeats 4000000 in
theorem fill_calls (b : Nat) (cs : Array Value) (w : World) (hn : cs.size = 260) (hb : w.heap[b]? = some (.cells cs 134 (0,0))) :
    Calls Try.prog 88 #[.pointer (some ⟨b,0,none⟩)] w fun e w'=>e = .returned (.tuple #[]) ∧ (w.grownBy w' (some b) ∧ w'.heap[b]? = some (.cells ((laid cs 256).setIfInBounds 3 (.bool true)) 134 (0,0))):=by
  have HB:=Aside0.mk hb
  have HN:=Aside0.mk hn
  have HC2:=@drawn_block
  have HG2:=@drawn_grown
  clear hb hn
  go_enter Try.func88,Try.ntmps88
  go_wp2
  go_loopw [2,3] (fun t i wr=>∃ k : Nat,k ≤ 256 ∧ i = .int .i64 k ∧ Aside0 (w.grownBy wr (some b)) ∧ Aside0 (wr.heap[b]? = some (.cells (laid cs k) 134 (0,0)))) (fun _ i _=>256 - (intOf i).toNat)
  case atStart=>exact ⟨0,Nat.zero_le _,rfl,⟨World.grownBy.refl _ _⟩,HB⟩
  case round =>
    obtain ⟨k,hk,rfl,HG,HC⟩:=hrel
    by_cases hlt : k < 256
    · have hlt' : decide ((k : Int) < 256) = true:=decide_eq_true (by omega)
      go_wp2
      have h0 : (0 : Int) ≤ (k : Int):=by omega
      have h1 : (k : Int) < 256:=by omega
      obtain ⟨vo,hv⟩ : ∃ vo,(laid cs k)[4 + k]? = some vo:=⟨_,Array.getElem?_eq_getElem (by rw [laid_size,HN.out];omega)⟩
      have HV:=Aside0.mk hv
      clear hv
      refine start_ (n:=10) (S:=fun w'=>w'.heap[b]? = some (.cells (laid cs k) 134 (0,0)) ∧ w.grownBy w' (some b)) (ds:=[9]) #[false,false,false,false,false,false,false,false,false,false] (by kernel_rfl) rfl rfl ⟨(show wr.drew.heap[b]? = _ from HC.out),(drew_grown HG.out)⟩ (fun hHeld=>?_)
      refine pure_ (i:=0) (N:=some 6) (v:=?_) (a':=?_) #[true,false,false,false,false,false,false,false,false,false] rfl rfl (by kernel_rfl) (fun _ _ _ h=>h) (Or.inl ⟨by rfl,?_⟩) ?_ ?_
      rotate_left
      · intro w'
        go_simp
        with_reducible rfl
      rotate_left
      · simp only [Act.put,List.setIfInBounds_toArray,List.set_cons_zero,List.set_cons_succ,i64_w,i32_w]
        rfl
      refine pure_ (i:=1) (N:=some 7) (v:=?_) (a':=?_) #[true,true,false,false,false,false,false,false,false,false] rfl rfl (by kernel_rfl) (fun _ _ _ h=>h) (Or.inl ⟨by rfl,?_⟩) ?_ ?_
      rotate_left
      · intro w'
        go_simp
        with_reducible rfl
      rotate_left
      · simp only [Act.put,List.setIfInBounds_toArray,List.set_cons_zero,List.set_cons_succ,i64_w,i32_w]
        rfl
      refine pure_ (i:=2) (N:=some 8) (v:=?_) (a':=?_) #[true,true,true,false,false,false,false,false,false,false] rfl rfl (by kernel_rfl) (fun _ _ _ h=>h) (Or.inl ⟨by rfl,?_⟩) ?_ ?_
      rotate_left
      · intro w'
        go_simp
        with_reducible rfl
      rotate_left
      · simp only [Act.put,List.setIfInBounds_toArray,List.set_cons_zero,List.set_cons_succ,i64_w,i32_w]
        rfl
      refine pure_ (i:=3) (N:=some 9) (v:=?_) (a':=?_) #[true,true,true,true,false,false,false,false,false,false] rfl rfl (by kernel_rfl) (fun _ _ _ h=>h) (Or.inl ⟨by rfl,?_⟩) ?_ ?_
      rotate_left
      · intro w'
        go_simp
        with_reducible rfl
      rotate_left
      · simp only [Act.put,List.setIfInBounds_toArray,List.set_cons_zero,List.set_cons_succ,i64_w,i32_w]
        rfl
      refine pure_ (i:=4) (N:=some 10) (v:=?_) (a':=?_) #[true,true,true,true,true,false,false,false,false,false] rfl rfl (by kernel_rfl) (fun _ _ _ h=>h) (Or.inl ⟨by rfl,?_⟩) ?_ ?_
      rotate_left
      · intro w'
        go_simp
        with_reducible rfl
      rotate_left
      · simp only [Act.put,List.setIfInBounds_toArray,List.set_cons_zero,List.set_cons_succ,i64_w,i32_w]
        rfl
      refine pure_ (i:=6) (N:=some 12) (v:=?_) (a':=?_) #[true,true,true,true,true,false,true,false,false,false] rfl rfl (by kernel_rfl) (fun _ _ _ h=>h) (Or.inl ⟨by rfl,?_⟩) ?_ ?_
      rotate_left
      · intro w'
        go_simp
        with_reducible rfl
      rotate_left
      · simp only [Act.put,List.setIfInBounds_toArray,List.set_cons_zero,List.set_cons_succ,i64_w,i32_w]
        rfl
      refine pure_ (i:=7) (N:=some 13) (v:=?_) (a':=?_) #[true,true,true,true,true,false,true,true,false,false] rfl rfl (by kernel_rfl) (fun _ _ _ h=>h) (Or.inl ⟨by rfl,?_⟩) ?_ ?_
      rotate_left
      · intro w'
        go_simp
        with_reducible rfl
      rotate_left
      · simp only [Act.put,List.setIfInBounds_toArray,List.set_cons_zero,List.set_cons_succ,i64_w,i32_w]
        rfl
      refine one_ (i:=5) (N:=some 11) #[true,true,true,true,true,true,true,true,false,false] rfl rfl (by kernel_rfl) (by decide) (fun K hK=>?_)
      refine goes_ Try.func91 (by kernel_rfl) rfl #[.int .u32 ((k : Int) % 4294967296 * 16777216 % 4294967296)] (by rfl) rfl rfl (by simp only [List.map_toArray,List.map_cons,List.map_nil];rfl) ?_
      with_reducible refine (step_calls _ _).mono ?_
      rintro e w3 ⟨rfl,hd3⟩
      refine ⟨_,rfl,?_⟩
      have hc3:=HC2 hd3 hHeld.1
      have hg3:=HG2 hd3 hHeld.2
      refine hK.out _ _ ⟨hc3,hg3⟩ (fun hHeld=>?_)
      clear hK K
      refine norm_ (a':=?_) ?_ ?_
      rotate_left
      · show Act.put _ (some 11) _ = _
        simp only [Act.put,List.setIfInBounds_toArray,List.set_cons_zero,List.set_cons_succ,i64_w,i32_w]
        rfl
      refine pure_ (i:=8) (N:=some 14) (v:=?_) (a':=?_) #[true,true,true,true,true,true,true,true,true,false] rfl rfl (by kernel_rfl) (fun _ _ _ h=>h) (Or.inl ⟨by rfl,?_⟩) ?_ ?_
      rotate_left
      · intro w'
        go_simp
        with_reducible rfl
      rotate_left
      · simp only [Act.put,List.setIfInBounds_toArray,List.set_cons_zero,List.set_cons_succ,i64_w,i32_w]
        rfl
      refine last_ (i:=9) (N:=none) #[true,true,true,true,true,true,true,true,true,true] rfl rfl (by kernel_rfl) (by decide) (fun K hK=>?_)
      have hq:=(blk_cell hHeld.1 (4 + k)).trans HV.out
      have hz:=blk_frozen hHeld.1 (4 + k)
      refine skip_ (w1:=?_) (by rfl) rfl ?_ ?_
      rotate_left
      · go_simp
        rfl
      refine hK.out _ _ ?_
      clear hK K
      refine done_ (by kernel_rfl) ?_
      clear hHeld hq hz HV
      have HG9:=Aside0.mk hg3
      have HC9:=Aside0.mk hc3
      clear hc3 hg3
      go_wp2
      go_roundw
      case rel =>
        refine ⟨k + 1,by omega,by go_num,⟨set_grown HG9.out (4 + k) _⟩,⟨?_⟩⟩
        simp only [laid]
        rw [← htabk k (by omega)]
        exact blk_set HC9.out (4 + k) _
      case measure=>simp [intOf];omega
    · have hge : decide ((k : Int) < 256) = false:=decide_eq_false (by omega)
      obtain rfl : k = 256:=by omega
      have hq : wr.cell? ⟨b,3,none⟩ = some ((laid cs 256)[3]'(by rw [laid_size,HN.out];omega)):=(blk_cell HC.out 3).trans (Array.getElem?_eq_getElem (by rw [laid_size,HN.out];omega))
      have hz : wr.frozen? ⟨b,3,none⟩ = false:=blk_frozen HC.out 3
      go_wp2
      go_end0
      exact ⟨rfl,set_grown HG.out 3 _,blk_set HC.out 3 _⟩
end Go.Proofs.Ytigkcigoiinkpaa.Crc
end
section
namespace Go.Proofs.Ytigkcigoiinkpaa.Crc
open Go.RowKit Go.Proofs.YtigkcigoiinkpaaW.PrintWords Go.Proofs.YtigkcigoiinkpaaW.PrintLast Go.Proofs.YtigkcigoiinkpaaW.PrintMore Go.Proofs.Ytigkcigoiinkpaa.Mth Go.Proofs.Ytigkcigoiinkpaa.QC
set_option linter.unusedVariables false
set_option linter.unusedSimpArgs false
def made (cs : Array Value) : Array Value:=(((laid (cs.setIfInBounds 1 (.int .i32 1)) 256).setIfInBounds 3 (.bool true)).setIfInBounds 0 (.int .u32 1)).setIfInBounds 1 (.int .i32 0)
theorem laid_low (cs : Array Value) (j : Nat) (hj : j < 4) : ∀ n,(laid cs n)[j]? = cs[j]?
  | 0=>rfl
  | n + 1=>by
    simp only [laid]
    rw [Array.getElem?_setIfInBounds_ne (by omega)]
    exact laid_low cs j hj n
theorem laid_at (cs : Array Value) (hn : cs.size = 260) (j : Nat) (hj : j < 256) : ∀ n,j < n → n ≤ 256 → (laid cs n)[4 + j]? = some (.int .u32 (crcTab (j : Int)))
  | 0,h,_=>by omega
  | n + 1,h,hn'=>by
    simp only [laid]
    by_cases e : j = n
    · subst e
      rw [Array.getElem?_setIfInBounds_self_of_lt (by rw [laid_size];omega)]
    · rw [Array.getElem?_setIfInBounds_ne (by omega)]
      exact laid_at cs hn j hj n (by omega) (by omega)
theorem made_size (cs : Array Value) : (made cs).size = cs.size:=by simp [made,laid_size]
theorem made_at (cs : Array Value) (hn : cs.size = 260) (j : Nat) (hj : j < 256) : (made cs)[4 + j]? = some (.int .u32 (crcTab (j : Int))):=by
  unfold made
  rw [Array.getElem?_setIfInBounds_ne (by omega),Array.getElem?_setIfInBounds_ne (by omega),Array.getElem?_setIfInBounds_ne (by omega)]
  exact laid_at _ (by simpa using hn) j hj 256 hj (Nat.le_refl _)
theorem made_zero (cs : Array Value) (hn : cs.size = 260) : (made cs)[0]? = some (.int .u32 1):=by
  unfold made
  rw [Array.getElem?_setIfInBounds_ne (by omega),Array.getElem?_setIfInBounds_self_of_lt (by simp [laid_size];omega)]
theorem made_three (cs : Array Value) (hn : cs.size = 260) : (made cs)[3]? = some (.bool true):=by
  unfold made
  rw [Array.getElem?_setIfInBounds_ne (by omega),Array.getElem?_setIfInBounds_ne (by omega),Array.getElem?_setIfInBounds_self_of_lt (by simp [laid_size];omega)]
theorem grown_trans {w w1 w2 : World} {b : Nat} (h : w.grownBy w1 (some b)) (k : w1.grownBy w2 (some b)) : w.grownBy w2 (some b) :=
  ⟨k.os.trans h.os,k.tape.trans h.tape,k.output.trans h.output,Nat.le_trans h.size k.size,fun i hi hne=>(k.block i (Nat.lt_of_lt_of_le hi h.size) hne).trans (h.block i hi hne)⟩
set_option maxRecDepth 100000 in
set_option maxHeartbeats 4000000 in
theorem slow_calls (b : Nat) (cs : Array Value) (w : World) (hn : cs.size = 260) (hb : w.heap[b]? = some (.cells cs 134 (0,0))) (h0 : cs[0]? = some (.int .u32 0)) (h1 : cs[1]? = some (.int .i32 0)) :
    Calls Try.prog 90 #[.pointer (some ⟨b,0,none⟩),.func (.func 88) #[.pointer (some ⟨b,0,none⟩)] #[]] w fun e w'=>e = .returned (.tuple #[]) ∧ (w.grownBy w' (some b) ∧ w'.heap[b]? = some (.cells (made cs) 134 (0,0))):=by
  have HB:=Aside0.mk hb
  have HN:=Aside0.mk hn
  have H0:=Aside0.mk h0
  have H1:=Aside0.mk h1
  have b1:=Aside0.mk (blk_set hb 1 (.int .i32 1))
  have g1:=Aside0.mk (set_grown (World.grownBy.refl w (some b)) 1 (.int .i32 1))
  have c1 : w.cell? ⟨b,1,none⟩ = some (.int .i32 0):=(blk_cell hb 1).trans h1
  have z1 : w.frozen? ⟨b,1,none⟩ = false:=blk_frozen hb 1
  have hl:=run_call_load (P:=Try.prog) Try.func92 (by kernel_rfl) (by kernel_rfl) (by kernel_rfl) .u32 (by kernel_rfl) (w:=w.setCell ⟨b,1,none⟩ (.int .i32 1)) (a:=⟨b,0,none⟩) (x:=0) ((World.cell?_setCell_other _ ⟨b,1,none⟩ ⟨b,0,none⟩ _ (by simp)).trans ((blk_cell hb 0).trans h0))
  have hnot : ∀ (x : Bool) (w : World),(Op.unary .not (.bool x)).run Try.prog w = .ok (.bool (!x)) w:=fun _ _=>rfl
  clear hb hn h0 h1
  go_enter_defers Try.func90,Try.ntmps90
  go_wp2_with (first|(go_at_call 93;refine (lock_free ⟨b,1,none⟩ _ (by go_simp) (by go_simp)).mono ?_;rintro e w' ⟨rfl,rfl⟩)|(go_at_call 89;go_in)|(go_at_call 88;refine (fill_calls b (cs.setIfInBounds 1 (.int .i32 1)) _ (by rw [Array.size_setIfInBounds];exact HN.out) b1.out).mono ?_;rintro e w2 ⟨rfl,hg,hc⟩;have HG:=Aside0.mk hg;have HC:=Aside0.mk hc;clear hg hc))
  have e0 : ((laid (cs.setIfInBounds 1 (.int .i32 1)) 256).setIfInBounds 3 (.bool true))[0]? = some (.int .u32 0):=by
    rw [Array.getElem?_setIfInBounds_ne (by omega),laid_low _ 0 (by omega),Array.getElem?_setIfInBounds_ne (by omega)];exact H0.out
  have e1 : (((laid (cs.setIfInBounds 1 (.int .i32 1)) 256).setIfInBounds 3 (.bool true)).setIfInBounds 0 (.int .u32 1))[1]? = some (.int .i32 1):=by
    rw [Array.getElem?_setIfInBounds_ne (by omega),Array.getElem?_setIfInBounds_ne (by omega),laid_low _ 1 (by omega),Array.getElem?_setIfInBounds_self_of_lt (by have:=HN.out;omega)]
  have k1:=blk_set (show w2.drew.heap[b]? = _ from HC.out) 0 (.int .u32 1)
  have k2:=blk_set k1 1 (.int .i32 0)
  have G2:=set_grown (set_grown (drew_grown (grown_trans g1.out HG.out)) 0 (.int .u32 1)) 1 (.int .i32 0)
  refine leaves_cons (f:=95) (args:=#[.pointer (some ⟨b,0,none⟩),.bool true]) (by simp) (by simp [go_sem]) ?_
  refine (store_deferred ⟨b,0,none⟩ (.int .u32 0) .returning _ ((blk_cell HC.out 0).trans e0) (blk_frozen HC.out 0)).mono ?_
  rintro e u' w'' ⟨rfl,rfl,rfl⟩
  refine leaves_cons (f:=94) (args:=#[.pointer (some ⟨b,1,none⟩)]) (by simp [settle]) (by simp [go_sem]) ?_
  refine (unlock_deferred ⟨b,1,none⟩ _ _ ((blk_cell k1 1).trans e1) (blk_frozen k1 1)).mono ?_
  rintro e u' w'' ⟨rfl,rfl,rfl⟩
  simp [Leaves,settle,results,Try.results90]
  exact ⟨G2,k2⟩
theorem drop_cons_rd {xs : List Int} {k : Nat} (hk : k < xs.length) : xs.drop k = rd xs (k : Int) :: xs.drop (k + 1):=by
  unfold rd
  rw [Int.toNat_natCast,List.getD_eq_getElem?_getD,List.getElem?_eq_getElem hk]
  exact List.drop_eq_getElem_cons hk
theorem C_far {w w1 : World} {b : Nat} {A : Option Addr} {xs : List Int} (h : Kd.C (Kd.int .u8) w A xs.length xs) (hf : ∀ ad,A = some ad → 0 < xs.length → ad.block ≠ b) (hg : w.grownBy w1 (some b)) : Kd.C (Kd.int .u8) w1 A xs.length xs:=by
  refine ⟨h.1,h.2.1,fun hn=>?_⟩
  obtain ⟨ad,e,hc⟩:=h.2.2 hn
  refine ⟨ad,e,fun j p hj=>?_⟩
  obtain ⟨c,hl,hK,hcell⟩:=hc j p hj
  refine ⟨c,hl,hK,fun i u hu=>?_⟩
  have hcc:=hcell i u hu
  have hb : (ad.add (j * (Kd.int .u8).sz + i)).block = ad.block:=add_block _ _
  have hlt:=World.block_lt_of_cell? w _ hcc
  rw [World.cell?_of_block (w:=w) (w':=w1) (by
    refine hg.block _ hlt (fun e2=>?_)
    rw [hb] at e2
    exact hf ad e hn (Option.some.inj e2))]
  exact hcc
set_option maxRecDepth 100000 in
set_option maxHeartbeats 4000000 in
theorem do_first (b : Nat) (cs : Array Value) (w : World) (hn : cs.size = 260) (hb : w.heap[b]? = some (.cells cs 134 (0,0))) (h0 : cs[0]? = some (.int .u32 0)) (h1 : cs[1]? = some (.int .i32 0)) :
    Calls Try.prog 87 #[.pointer (some ⟨b,0,none⟩),.func (.func 88) #[.pointer (some ⟨b,0,none⟩)] #[]] w fun e w'=>e = .returned (.tuple #[]) ∧ (w.grownBy w' (some b) ∧ w'.heap[b]? = some (.cells (made cs) 134 (0,0))):=by
  have hl:=run_call_load (P:=Try.prog) Try.func92 (by kernel_rfl) (by kernel_rfl) (by kernel_rfl) .u32 (by kernel_rfl) ((blk_cell hb 0).trans h0)
  have hnot : ∀ (x : Bool) (w : World),(Op.unary .not (.bool x)).run Try.prog w = .ok (.bool (!x)) w:=fun _ _=>rfl
  have SL:=Aside0.mk (slow_calls b cs w hn hb h0 h1)
  clear hn hb h0 h1
  go_enter Try.func87,Try.ntmps87
  go_wp2_with (first|(go_at_call 90;refine SL.out.mono ?_;rintro e w' ⟨rfl,hg,hc⟩;have HG:=Aside0.mk hg;have HC:=Aside0.mk hc;clear hg hc)|(go_at_call 89;go_in))
  go_end0
  exact ⟨rfl,HG.out,HC.out⟩
structure Done (cs : Array Value) : Prop where
  size : cs.size = 260
  zero : cs[0]? = some (.int .u32 1)
  three : cs[3]? = some (.bool true)
  at_ : ∀ j,j < 256 → cs[4 + j]? = some (.int .u32 (crcTab (j : Int)))
structure Fresh (cs : Array Value) : Prop where
  size : cs.size = 260
  zero : cs[0]? = some (.int .u32 0)
  one : cs[1]? = some (.int .i32 0)
  three : cs[3]? = some (.bool false)
theorem made_done {cs : Array Value} (h : Fresh cs) : Done (made cs):=⟨by rw [made_size];exact h.size,made_zero cs h.size,made_three cs h.size,fun j hj=>made_at cs h.size j hj⟩
theorem done_at {cs : Array Value} (h : Done cs) {w : World} {b : Nat} (hb : w.heap[b]? = some (.cells cs 134 (0,0))) {j : Nat} (hj : j < 256) : w.cell? ⟨b,4 + j,none⟩ = some (.int .u32 (crcTab (j : Int))):=(blk_cell hb _).trans (h.at_ j hj)
set_option maxRecDepth 100000 in
set_option maxHeartbeats 8000000 in
theorem add_first (b : Nat) (cs : Array Value) (A : Option Addr) (c : Nat) (xs : List Int) (s : Int) (w : World) (hd : Fresh cs) (hb : w.heap[b]? = some (.cells cs 134 (0,0))) (hX : Kd.C (Kd.int .u8) w A xs.length xs) (hs0 : 0 ≤ s) (hs1 : s < 4294967296) (hf : ∀ ad,A = some ad → 0 < xs.length → ad.block ≠ b) (hz : 0 < xs.length) :
    Calls Try.prog 86 #[.pointer (some ⟨b,0,none⟩),.int .u32 s,.slice A xs.length c] w fun e w'=>e = .returned (.int .u32 (crcAdd s xs)) ∧ (w.grownBy w' (some b) ∧ w'.heap[b]? = some (.cells (made cs) 134 (0,0))):=by
  have HX0:=Aside0.mk hX
  have HF:=Aside0.mk hf
  have HD:=Aside0.mk (made_done hd)
  have FR:=Aside0.mk hd
  have HB:=Aside0.mk hb
  have hmf : ∀ (fn : Fn) (first cap : Array Value) (w : World),(Instr.makeFunc fn first cap).run Try.prog w = .ok (.func fn first cap) w:=fun _ _ _ _=>rfl
  have hz2 : decide (0 < xs.length) = true:=decide_eq_true hz
  have hz3 : decide ((0 : Int) < (xs.length : Int)) = true:=decide_eq_true (by omega)
  clear hX hd hb hz hf
  go_enter Try.func86,Try.ntmps86
  go_wp2_with (go_at_call 87;refine (do_first b cs _ FR.out.size HB.out FR.out.zero FR.out.one).mono ?_;rintro e w1 ⟨rfl,hg,hc⟩;have HG:=Aside0.mk hg;have HC:=Aside0.mk hc;have HX:=Aside0.mk (C_far HX0.out HF.out hg);clear hg hc)
  go_loop [1,8,20] (fun t _ i=>∃ (k : Nat) (cur : Int),k ≤ xs.length ∧ 0 ≤ cur ∧ cur < 4294967296 ∧ i = .int .i64 k ∧ t = .int .u32 cur ∧ Aside0 (crcAdd cur (xs.drop k) = crcAdd s xs)) (fun _ _ i=>xs.length - (intOf i).toNat)
  case atStart=>exact ⟨0,s,Nat.zero_le _,hs0,hs1,rfl,rfl,⟨by rw [List.drop_zero]⟩⟩
  case round =>
    obtain ⟨k,cur,hk,hc0,hc1,rfl,rfl,HR⟩:=hrel
    have hlen : xs.length ≤ 9223372036854775807:=HX.out.2.1
    by_cases hlt : k < xs.length
    · have p0 : 0 ≤ (k : Int):=by omega
      have q0 : (k : Int) < (xs.length : Int):=by omega
      have hlt' : decide ((k : Int) < (xs.length : Int)) = true:=decide_eq_true q0
      have hlt2 : decide (k < xs.length) = true:=decide_eq_true hlt
      obtain ⟨ad,e1,hx⟩:=Kd.at_int HX.out (k : Int) p0 q0
      cases e1
      obtain ⟨x,hxq⟩ : ∃ x : Int,rd xs (k : Int) = x:=⟨_,rfl⟩
      rw [hxq] at hx
      simp only [Int.toNat_natCast] at hx
      have HXQ:=Aside0.mk hxq
      clear hxq
      obtain ⟨j,hj⟩ : ∃ j : Nat,Go.bits .xor .u8 (cur / 16777216) x = (j : Int):=⟨(Go.bits .xor .u8 (cur / 16777216) x).toNat,by have:=(xor8_rng (cur / 16777216) x).1;omega⟩
      have hj1 : (j : Int) < 256:=by have:=(xor8_rng (cur / 16777216) x).2;omega
      have hj0 : (0 : Int) ≤ (j : Int):=by omega
      have hjn : j < 256:=by omega
      have ht:=done_at HD.out HC.out hjn
      go_wp2
      go_round
      case rel =>
        refine ⟨k + 1,Go.bits .xor .u32 (cur * 256 % 4294967296) (crcTab (j : Int)),by omega,(xor32_rng _ _).1,(xor32_rng _ _).2,by go_num,rfl,⟨?_⟩⟩
        rw [← HR.out,drop_cons_rd hlt,HXQ.out]
        simp only [crcAdd]
        rw [show cur / 16777216 % 256 = cur / 16777216 from by omega]
        rw [hj]
      case measure=>simp [intOf];omega
    · have hlt' : decide ((k : Int) < (xs.length : Int)) = false:=decide_eq_false (by omega)
      have hlt2 : decide (k < xs.length) = false:=decide_eq_false hlt
      have hkk : k = xs.length:=by omega
      have HRR:=Aside0.mk (show cur = crcAdd s xs by rw [← HR.out,hkk,List.drop_length];rfl)
      clear hkk
      go_wp2
      go_ret
      exact ⟨by rw [HRR.out];rfl,HG.out,HC.out⟩
theorem add_nil (b : Nat) (A : Option Addr) (c : Nat) (s : Int) (w : World) :
    Calls Try.prog 86 #[.pointer (some ⟨b,0,none⟩),.int .u32 s,.slice A 0 c] w fun e w'=>e = .returned (.int .u32 s) ∧ w' = w:=by
  go_enter Try.func86,Try.ntmps86
  go_wp2
  refine wp_loop_rounds 1 ?_
  rw [rounds_succ]
  go_wp2
  go_ret
  exact ⟨rfl,rfl⟩
end Go.Proofs.Ytigkcigoiinkpaa.Crc
end
section
namespace Go.Proofs.Ytigkcigoiinkpaa.Crc
open Go.RowKit Go.Proofs.YtigkcigoiinkpaaW.PrintWords Go.Proofs.YtigkcigoiinkpaaW.PrintLast Go.Proofs.YtigkcigoiinkpaaW.PrintMore Go.Proofs.Ytigkcigoiinkpaa.Mth Go.Proofs.Ytigkcigoiinkpaa.QC
set_option linter.unusedVariables false
set_option linter.unusedSimpArgs false
def zc : Array Value:=#[.int .u32 0,.int .i32 0,.int .u32 0,.bool false] ++ Array.replicate 256 (.int .u32 0)
theorem zc_low (j : Nat) (hj : j < 4) : zc[j]? = (#[.int .u32 0,.int .i32 0,.int .u32 0,.bool false] : Array Value)[j]?:=by
  unfold zc
  rw [Array.getElem?_append_left (by simpa using hj)]
theorem zc_fresh : Fresh zc:=⟨by simp only [zc,Array.size_append,Array.size_replicate];rfl,zc_low 0 (by omega),zc_low 1 (by omega),zc_low 3 (by omega)⟩
theorem zv (w : World) : Sem.run Try.prog (zeroValue 134) w = .ok (.agg zc) w:=by kernel_rfl
attribute [local go_sem] zv
set_option maxRecDepth 100000 in
set_option maxHeartbeats 4000000 in
theorem new_calls (w : World) : Calls Try.prog 84 #[] w fun e w'=>e = .returned (.pointer (some ⟨w.heap.size,0,none⟩)) ∧ w' = w.alloc (.cells zc 134 (0,0)):=by
  go_enter Try.func84,Try.ntmps84
  go_wp2
  go_ret
  exact ⟨rfl,by first|rfl|kernel_rfl⟩
theorem new_block (w : World) : (w.alloc (.cells zc 134 (0,0))).heap[w.heap.size]? = some (.cells zc 134 (0,0)):=by
  show (w.heap.push _)[w.heap.size]? = _
  exact Array.getElem?_push_size
set_option maxRecDepth 100000 in
set_option maxHeartbeats 4000000 in
theorem sum_first (b : Nat) (cs : Array Value) (A : Option Addr) (c : Nat) (xs : List Int) (w : World) (hd : Fresh cs) (hb : w.heap[b]? = some (.cells cs 134 (0,0))) (hX : Kd.C (Kd.int .u8) w A xs.length xs) (hf : ∀ ad,A = some ad → 0 < xs.length → ad.block ≠ b) (hz : 0 < xs.length) :
    Calls Try.prog 85 #[.pointer (some ⟨b,0,none⟩),.slice A xs.length c] w fun e w'=>e = .returned (.int .u32 (crcSum xs)) ∧ (w.grownBy w' (some b) ∧ w'.heap[b]? = some (.cells (made cs) 134 (0,0))):=by
  have AD:=Aside0.mk (add_first b cs A c xs 4294967295 w hd hb hX (by omega) (by omega) hf hz)
  clear hd hb hX hf hz
  go_enter Try.func85,Try.ntmps85
  go_wp2_with (go_at_call 86;refine AD.out.mono ?_;rintro e w' ⟨rfl,hg,hc⟩;have HG:=Aside0.mk hg;have HC:=Aside0.mk hc;clear hg hc)
  go_ret
  exact ⟨rfl,HG.out,HC.out⟩
set_option maxRecDepth 100000 in
set_option maxHeartbeats 4000000 in
theorem sum_nil (b : Nat) (A : Option Addr) (c : Nat) (w : World) :
    Calls Try.prog 85 #[.pointer (some ⟨b,0,none⟩),.slice A 0 c] w fun e w'=>e = .returned (.int .u32 (crcSum [])) ∧ w' = w:=by
  go_enter Try.func85,Try.ntmps85
  go_wp2_with (go_at_call 86;refine (add_nil b A c 4294967295 w).mono ?_;rintro e w' ⟨rfl,rfl⟩)
  go_ret
  exact ⟨rfl,rfl⟩
theorem new_sum (b : Nat) (A : Option Addr) (c : Nat) (xs : List Int) (w : World) (hb : w.heap[b]? = some (.cells zc 134 (0,0))) (hX : Kd.C (Kd.int .u8) w A xs.length xs) (hf : ∀ ad,A = some ad → 0 < xs.length → ad.block ≠ b) :
    Calls Try.prog 85 #[.pointer (some ⟨b,0,none⟩),.slice A xs.length c] w fun e w'=>e = .returned (.int .u32 (crcSum xs)) ∧ w.grownBy w' (some b):=by
  by_cases hz : 0 < xs.length
  · exact (sum_first b zc A c xs w zc_fresh hb hX hf hz).mono fun e w' h=>⟨h.1,h.2.1⟩
  · obtain rfl : xs = []:=List.eq_nil_of_length_eq_zero (by omega)
    exact (sum_nil b A c w).mono fun e w' h=>⟨h.1,by rw [h.2];exact World.grownBy.refl _ _⟩
theorem C_old {w : World} {A : Option Addr} {xs : List Int} (h : Kd.C (Kd.int .u8) w A xs.length xs) : ∀ ad,A = some ad → 0 < xs.length → ad.block ≠ w.heap.size:=by
  intro ad e hn e2
  obtain ⟨ad',e',hc⟩:=h.2.2 hn
  rw [e] at e'
  obtain rfl:=Option.some.inj e'
  obtain ⟨c,hl,hK,hcell⟩:=hc 0 _ (List.getElem?_eq_getElem hn)
  obtain rfl : c = [.int .u8 xs[0]]:=hK
  have h1:=World.block_lt_of_cell? w _ (hcell 0 _ rfl)
  rw [add_block,e2] at h1
  omega
theorem below_of_new {w w1 : World} {o : Obj} (h : (w.alloc o).grownBy w1 (some w.heap.size)) : Below w.heap.size w w1 :=
  have s : (w.alloc o).heap.size = w.heap.size + 1:=by simp
  ⟨h.os,h.tape,h.output,by have:=h.size;omega,fun i hi =>
    (h.block i (by omega) (by simp;omega)).trans ((below_alloc (Below.refl w.heap.size w) o).block i hi)⟩
end Go.Proofs.Ytigkcigoiinkpaa.Crc
end
section
namespace Go.Proofs.Ytigkcigoiinkpaa.QC
open Go.RowKit Go.Proofs.YtigkcigoiinkpaaW.PrintWords Go.Proofs.YtigkcigoiinkpaaW.PrintLast Go.Proofs.YtigkcigoiinkpaaW.PrintMore Go.Proofs.Ytigkcigoiinkpaa.Mth Go.Proofs.Ytigkcigoiinkpaa.Crc
attribute [local go_sem] max2_int min2_int max_two min_two max_three min_three max_four min_four
set_option linter.unusedVariables false
set_option linter.unusedSimpArgs false
def sealed_sum.f (l0 : List Int) : Option (List Int):=some (sumB l0)
set_option maxHeartbeats 8000000 in
set_option maxRecDepth 100000 in
theorem sealed_sum.calls (A0 : Option Addr) (c0 : Nat) (l0 : List Int) (r : List Int) (w : World) (hr0 : Kd.C (Kd.int .u8) w A0 l0.length l0) (hc0 : l0.length ≤ c0) (h : sealed_sum.f l0 = some r) :
    Calls Try.prog 82 #[.slice A0 l0.length c0] w fun e w'=>∃ v0_ : Value,e = .returned (v0_) ∧ Kd.R (Kd.int .u8) 5 w' w.heap.size (fun _=>True) v0_ r ∧ Below w.heap.size w w':=by
  have hrr : r = sumB l0:=(Option.some.inj h).symm
  have HRR:=Aside0.mk hrr
  clear h hrr
  have HX:=Aside0.mk (Kd.C_alloc hr0 (.cells zc 134 (0,0)))
  have HF:=Aside0.mk (C_old hr0)
  obtain ⟨s,hs⟩ : ∃ s : Int,crcSum l0 = s:=⟨_,rfl⟩
  have hs01:=crcSum_rng l0
  rw [hs] at hs01
  obtain ⟨hs0,hs1⟩:=hs01
  have HS:=Aside0.mk hs
  clear hs hr0
  go_enter Try.func82,Try.ntmps82
  go_wp2_with (first|(go_at_call 84;refine (new_calls w).mono ?_;rintro e w' ⟨rfl,rfl⟩)|(go_at_call 85;refine (new_sum w.heap.size A0 c0 l0 _ (new_block w) HX.out HF.out).mono ?_;rintro e w1 ⟨rfl,hg⟩;have HB:=Aside0.mk (below_of_new hg);clear hg;rw [HS.out])|((with_reducible refine gate_dst (N:=18) rfl ?_);refine Kd.R_lit (Kd.int .u8) _ 5 ?hg (N:=18) ?hd (xs:=([s / 16777216 % 256,s / 65536 % 256,s / 256 % 256,s % 256] : List Int)) (inner:=[.int .u8 (s / 16777216),.int .u8 (s / 65536 % 256),.int .u8 (s / 256 % 256),.int .u8 (s % 256)]) (ok:=fun _=>True) (okp:=fun _=>True) ?hr ?hp (fun _ hk=>hk) trivial (Below.refl _ _) (Nat.le_refl _) (by simp) ?_;(case hd=>rfl);(case hg=>rfl);(case hr=>first|(go_simp;done)|(go_simp;rfl));(case hp=>exact (Reps.one (show Kd.M (Kd.int .u8) _ _ _ (s / 16777216 % 256) [.int .u8 (s / 16777216)] from by rw [show s / 16777216 % 256 = s / 16777216 from by omega];rfl) (Reps.one (show Kd.M (Kd.int .u8) _ _ _ (s / 65536 % 256) [.int .u8 (s / 65536 % 256)] from rfl) (Reps.one (show Kd.M (Kd.int .u8) _ _ _ (s / 256 % 256) [.int .u8 (s / 256 % 256)] from rfl) (Reps.one (show Kd.M (Kd.int .u8) _ _ _ (s % 256) [.int .u8 (s % 256)] from rfl) (Reps.none _ _))))));intro v2 w2 ho hb hg_ hnew_;clear hg_ hnew_;have HO:=Aside0.mk ho;have HB2:=Aside0.mk (below_step HB.out hb);have HBZ:=Aside0.mk HB.out.size;clear ho hb))
  go_ret
  refine ⟨_,rfl,?_,HB2.out⟩
  rw [HRR.out]
  unfold sumB
  rw [HS.out]
  exact Kd.R_lower HO.out HBZ.out
def padB (l : List Int) : List Int:=l.take (min l.length 124) ++ (List.replicate 124 (0 : Int)).drop (min l.length 124)
def sealB (l : List Int) : List Int:=padB l ++ sumB (padB l)
theorem padB_length (l : List Int) : (padB l).length = 124:=by
  unfold padB
  rw [List.length_append,List.length_take,List.length_drop,List.length_replicate]
  omega
theorem seal_info : (Try.prog.info? 5).map (fun i=>(i.zero,i.size,i.bytes)) = some (some (.int .u8 0),1,1):=by kernel_rfl
def sealed_Seal.f (l0 : List Int) : Option (List Int):=some (sealB l0)
theorem sum_padded (A : Option Addr) (c : Nat) (l0 : List Int) (w : World) (hr : Kd.C (Kd.int .u8) w A (padB l0).length (padB l0)) (hc : 124 ≤ c) :
    Calls Try.prog 82 #[.slice A 124 c] w fun e w'=>∃ v0_ : Value,e = .returned (v0_) ∧ Kd.R (Kd.int .u8) 5 w' w.heap.size (fun _=>True) v0_ (sumB (padB l0)) ∧ Below w.heap.size w w':=by
  have h:=sealed_sum.calls A c (padB l0) (sumB (padB l0)) w hr (by rw [padB_length];exact hc) rfl
  rw [padB_length] at h
  exact h
set_option maxHeartbeats 8000000 in
set_option maxRecDepth 100000 in
theorem sealed_Seal.calls (A0 : Option Addr) (c0 : Nat) (l0 : List Int) (r : List Int) (w : World) (hr0 : Kd.C (Kd.int .u8) w A0 l0.length l0) (hc0 : l0.length ≤ c0) (h : sealed_Seal.f l0 = some r) :
    Calls Try.prog 72 #[.slice A0 l0.length c0] w fun e w'=>∃ v0_ : Value,e = .returned (v0_) ∧ Kd.R (Kd.int .u8) 5 w' w.heap.size (fun _=>True) v0_ r ∧ Below w.heap.size w w':=by
  have hrr : r = sealB l0:=(Option.some.inj h).symm
  have HRR:=Aside0.mk hrr
  have HR0:=Aside0.mk hr0
  clear h hrr hr0
  go_enter Try.func72,Try.ntmps72
  go_wp2_with (first|((with_reducible refine gate_dst (N:=4) rfl ?_);refine Kd.R_make (Kd.int .u8) (w0:=w) w.heap.size 5 rfl (N:=4) rfl 31 _ _ rfl 124 rfl rfl Try.underlying31 (.int .u8 0) 1 seal_info rfl (by decide) (by omega) 0 (ok:=fun _=>True) (okp:=fun _=>True) rfl (fun _ hk=>hk) trivial (by omega) (by omega) (Below.refl _ _) (Nat.le_refl _) ?_;intro v1 w1 ho hb hg_ hnew_;clear hg_ hnew_;have HO:=Aside0.mk ho;have HB:=Aside0.mk hb;clear ho hb;obtain ⟨Ao,co,eo⟩:=Kd.R_slice HO.out;subst eo)|((with_reducible refine gate_dst (N:=7) rfl ?_);refine Kd.R_copy (enc:=.int .u8) (h1:=fun _=>rfl) (0 : Int) (w0:=w) w.heap.size rfl (.tmp 5) (.tmp 6) 31 31 5 rfl Try.underlying31 (by kernel_rfl) _ _ l0 _ _ _ _ rfl rfl HO.out (Kd.C_below HR0.out HB.out) HB.out HB.out.size ?_;intro w2 ho2 hb2 hg2_;clear hg2_;rw [show List.take (min l0.length (List.replicate (124 : Int).toNat (0 : Int)).length) l0 ++ List.drop (min l0.length (List.replicate (124 : Int).toNat (0 : Int)).length) (List.replicate (124 : Int).toNat (0 : Int)) = padB l0 from rfl] at ho2;have HO2 : Aside0 (Kd.R (Kd.int .u8) 5 w2 w.heap.size (fun _=>True) (.slice Ao 124 co) (padB l0)):=Aside0.mk ho2;have HB2:=Aside0.mk hb2;clear ho2 hb2)|(go_at_call 82;refine (sum_padded Ao co l0 _ (Kd.R_reads' HO2.out).2.2 (Kd.R_reads' HO2.out).2.1).mono ?_;rintro e w3 ⟨v3,rfl,ho3,hb3⟩;have HO3:=Aside0.mk (Kd.R_below HO2.out hb3);have HS:=Aside0.mk (Kd.R_lower ho3 (below_size HB2.out));have HF:=Aside0.mk ho3;have HB3:=Aside0.mk (below_step HB2.out hb3);have HBB:=Aside0.mk hb3;clear ho3 hb3;obtain ⟨As,cs,es⟩:=Kd.R_slice HS.out;subst es)|((with_reducible refine gate_builtin (b:=.append) (xs:=#[.tmp 8,.tmp 10]) rfl ?_);at_builtin;refine Kd.R_append_rows (Kd.int .u8) (w0:=w) w.heap.size rfl (.tmp 8) (.tmp 10) 31 5 (.int .u8 0) 1 rfl Try.underlying31 seal_info rfl (by decide) (by omega) _ (padB l0) (sumB (padB l0)) _ _ _ (fun _=>True) (fun _=>False) rfl rfl HO3.out (Kd.R_reads' HS.out).2.2 (fun _ _ h=>h) (fun _ h=>h.elim) (fun _ _=>trivial) HB3.out HB3.out.size (by rw [padB_length,sumB_length];omega) ?_;intro v4 w4 ho4 hb4 hg4_ hnew4_;clear hg4_ hnew4_;have HO4:=Aside0.mk ho4;have HB4:=Aside0.mk hb4;clear ho4 hb4))
  go_ret
  exact ⟨_,rfl,by rw [HRR.out];exact HO4.out,HB4.out⟩
end Go.Proofs.Ytigkcigoiinkpaa.QC
end
