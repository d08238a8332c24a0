/- sealed.sum and sealed.Seal: what they come to. -/
import Derived.Test.YtaiaackeljlbfaaCrcSum
namespace Go.Proofs.Ytaiaackeljlbfaa.QC
open Go.RowKit Go.Proofs.YtaiaackeljlbfaaW.PrintWords Go.Proofs.YtaiaackeljlbfaaW.PrintLast Go.Proofs.YtaiaackeljlbfaaW.PrintMore Go.Proofs.Ytaiaackeljlbfaa.Mth Go.Proofs.Ytaiaackeljlbfaa.Crc
attribute [local go_sem] max2_int min2_int max_two min_two max_three min_three max_four min_four
set_option linter.unusedVariables false
set_option linter.unusedSimpArgs false

def sealed_sum.f (l0 : List Int) : Option (List Int) := some (sumB l0)
set_option maxHeartbeats 8000000 in
set_option maxRecDepth 100000 in
theorem sealed_sum.calls (A0 : Option Addr) (c0 : Nat) (l0 : List Int) (r : List Int) (w : World) (hr0 : Kd.C (Kd.int .u8) w A0 l0.length l0) (hc0 : l0.length ≤ c0) (h : sealed_sum.f l0 = some r) :
    Calls Try.prog 39 #[.slice A0 l0.length c0] w fun e w' => ∃ v0_ : Value, e = .returned (v0_) ∧ Kd.R (Kd.int .u8) 5 w' w.heap.size (fun _ => True) v0_ r ∧ Below w.heap.size w w' := by
  have hrr : r = sumB l0 := (Option.some.inj h).symm
  have HRR := Aside0.mk hrr
  clear h hrr
  have HX := Aside0.mk (Kd.C_alloc hr0 (.cells zc 83 (0, 0)))
  have HF := Aside0.mk (C_old hr0)
  obtain ⟨s, hs⟩ : ∃ s : Int, crcSum l0 = s := ⟨_, rfl⟩
  have hs01 := crcSum_rng l0
  rw [hs] at hs01
  obtain ⟨hs0, hs1⟩ := hs01
  have HS := Aside0.mk hs
  clear hs hr0
  go_enter Try.func39, Try.ntmps39
  go_wp2_with (first | (go_at_call 43; refine (new_calls w).mono ?_; rintro e w' ⟨rfl, rfl⟩) | (go_at_call 44; refine (new_sum w.heap.size A0 c0 l0 _ (new_block w) HX.out HF.out).mono ?_; rintro e w1 ⟨rfl, hg⟩; have HB := Aside0.mk (below_of_new hg); clear hg; rw [HS.out]) | ((with_reducible refine gate_dst (N := 18) rfl ?_); refine Kd.R_lit (Kd.int .u8) _ 5 ?hg (N := 18) ?hd (xs := ([s / 16777216 % 256, s / 65536 % 256, s / 256 % 256, s % 256] : List Int)) (inner := [.int .u8 (s / 16777216), .int .u8 (s / 65536 % 256), .int .u8 (s / 256 % 256), .int .u8 (s % 256)]) (ok := fun _ => True) (okp := fun _ => True) ?hr ?hp (fun _ hk => hk) trivial (Below.refl _ _) (Nat.le_refl _) (by simp) ?_; (case hd => rfl); (case hg => rfl); (case hr => first | (go_simp; done) | (go_simp; rfl)); (case hp => exact (Reps.one (show Kd.M (Kd.int .u8) _ _ _ (s / 16777216 % 256) [.int .u8 (s / 16777216)] from by rw [show s / 16777216 % 256 = s / 16777216 from by omega]; rfl) (Reps.one (show Kd.M (Kd.int .u8) _ _ _ (s / 65536 % 256) [.int .u8 (s / 65536 % 256)] from rfl) (Reps.one (show Kd.M (Kd.int .u8) _ _ _ (s / 256 % 256) [.int .u8 (s / 256 % 256)] from rfl) (Reps.one (show Kd.M (Kd.int .u8) _ _ _ (s % 256) [.int .u8 (s % 256)] from rfl) (Reps.none _ _)))))); intro v2 w2 ho hb hg_ hnew_; clear hg_ hnew_; have HO := Aside0.mk ho; have HB2 := Aside0.mk (below_step HB.out hb); have HBZ := Aside0.mk HB.out.size; clear ho hb))
  go_ret
  refine ⟨_, rfl, ?_, HB2.out⟩
  rw [HRR.out]
  unfold sumB
  rw [HS.out]
  exact Kd.R_lower HO.out HBZ.out

/-- The 124 bytes that a sector holds of a row. -/
def padB (l : List Int) : List Int := l.take (min l.length 124) ++ (List.replicate 124 (0 : Int)).drop (min l.length 124)
def sealB (l : List Int) : List Int := padB l ++ sumB (padB l)
theorem padB_length (l : List Int) : (padB l).length = 124 := by
  unfold padB
  rw [List.length_append, List.length_take, List.length_drop, List.length_replicate]
  omega
theorem seal_info : (Try.prog.info? 5).map (fun i => (i.zero, i.size, i.bytes)) = some (some (.int .u8 0), 1, 1) := by kernel_rfl

def sealed_Seal.f (l0 : List Int) : Option (List Int) := some (sealB l0)
theorem sum_padded (A : Option Addr) (c : Nat) (l0 : List Int) (w : World) (hr : Kd.C (Kd.int .u8) w A (padB l0).length (padB l0)) (hc : 124 ≤ c) :
    Calls Try.prog 39 #[.slice A 124 c] w fun e w' => ∃ v0_ : Value, e = .returned (v0_) ∧ Kd.R (Kd.int .u8) 5 w' w.heap.size (fun _ => True) v0_ (sumB (padB l0)) ∧ Below w.heap.size w w' := by
  have h := sealed_sum.calls A c (padB l0) (sumB (padB l0)) w hr (by rw [padB_length]; exact hc) rfl
  rw [padB_length] at h
  exact h

set_option maxHeartbeats 8000000 in
set_option maxRecDepth 100000 in
theorem sealed_Seal.calls (A0 : Option Addr) (c0 : Nat) (l0 : List Int) (r : List Int) (w : World) (hr0 : Kd.C (Kd.int .u8) w A0 l0.length l0) (hc0 : l0.length ≤ c0) (h : sealed_Seal.f l0 = some r) :
    Calls Try.prog 28 #[.slice A0 l0.length c0] w fun e w' => ∃ v0_ : Value, e = .returned (v0_) ∧ Kd.R (Kd.int .u8) 5 w' w.heap.size (fun _ => True) v0_ r ∧ Below w.heap.size w w' := by
  have hrr : r = sealB l0 := (Option.some.inj h).symm
  have HRR := Aside0.mk hrr
  have HR0 := Aside0.mk hr0
  clear h hrr hr0
  go_enter Try.func28, Try.ntmps28
  go_wp2_with (first | ((with_reducible refine gate_dst (N := 4) rfl ?_); refine Kd.R_make (Kd.int .u8) (w0 := w) w.heap.size 5 rfl (N := 4) rfl 27 _ _ rfl 124 rfl rfl Try.underlying27 (.int .u8 0) 1 seal_info rfl (by decide) (by omega) 0 (ok := fun _ => True) (okp := fun _ => True) rfl (fun _ hk => hk) trivial (by omega) (by omega) (Below.refl _ _) (Nat.le_refl _) ?_; intro v1 w1 ho hb hg_ hnew_; clear hg_ hnew_; have HO := Aside0.mk ho; have HB := Aside0.mk hb; clear ho hb; obtain ⟨Ao, co, eo⟩ := Kd.R_slice HO.out; subst eo) | ((with_reducible refine gate_dst (N := 7) rfl ?_); refine Kd.R_copy (enc := .int .u8) (h1 := fun _ => rfl) (0 : Int) (w0 := w) w.heap.size rfl (.tmp 5) (.tmp 6) 27 27 5 rfl Try.underlying27 (by kernel_rfl) _ _ l0 _ _ _ _ rfl rfl HO.out (Kd.C_below HR0.out HB.out) HB.out HB.out.size ?_; intro w2 ho2 hb2 hg2_; clear hg2_; rw [show List.take (min l0.length (List.replicate (124 : Int).toNat (0 : Int)).length) l0 ++ List.drop (min l0.length (List.replicate (124 : Int).toNat (0 : Int)).length) (List.replicate (124 : Int).toNat (0 : Int)) = padB l0 from rfl] at ho2; have HO2 : Aside0 (Kd.R (Kd.int .u8) 5 w2 w.heap.size (fun _ => True) (.slice Ao 124 co) (padB l0)) := Aside0.mk ho2; have HB2 := Aside0.mk hb2; clear ho2 hb2) | (go_at_call 39; refine (sum_padded Ao co l0 _ (Kd.R_reads' HO2.out).2.2 (Kd.R_reads' HO2.out).2.1).mono ?_; rintro e w3 ⟨v3, rfl, ho3, hb3⟩; have HO3 := Aside0.mk (Kd.R_below HO2.out hb3); have HS := Aside0.mk (Kd.R_lower ho3 (below_size HB2.out)); have HF := Aside0.mk ho3; have HB3 := Aside0.mk (below_step HB2.out hb3); have HBB := Aside0.mk hb3; clear ho3 hb3; obtain ⟨As, cs, es⟩ := Kd.R_slice HS.out; subst es) | ((with_reducible refine gate_builtin (b := .append) (xs := #[.tmp 8, .tmp 10]) rfl ?_); at_builtin; refine Kd.R_append_rows (Kd.int .u8) (w0 := w) w.heap.size rfl (.tmp 8) (.tmp 10) 27 5 (.int .u8 0) 1 rfl Try.underlying27 seal_info rfl (by decide) (by omega) _ (padB l0) (sumB (padB l0)) _ _ _ (fun _ => True) (fun _ => False) rfl rfl HO3.out (Kd.R_reads' HS.out).2.2 (fun _ _ h => h) (fun _ h => h.elim) (fun _ _ => trivial) HB3.out HB3.out.size (by rw [padB_length, sumB_length]; omega) ?_; intro v4 w4 ho4 hb4 hg4_ hnew4_; clear hg4_ hnew4_; have HO4 := Aside0.mk ho4; have HB4 := Aside0.mk hb4; clear ho4 hb4))
  go_ret
  exact ⟨_, rfl, by rw [HRR.out]; exact HO4.out, HB4.out⟩

end Go.Proofs.Ytaiaackeljlbfaa.QC
