/- The law RecordBack: what it comes to. -/
import Derived.Test.YtljohhinokaklaaX1
import Derived.Test.YtljohhinokaklaaF7
import Derived.Test.YtljohhinokaklaaH3
set_option linter.unusedVariables false
set_option linter.unusedSimpArgs false
set_option maxRecDepth 10000
set_option maxHeartbeats 0
namespace Go.Proofs.Ytljohhinokaklaa.Am
open Go Go.RowKit Go.Proofs

theorem un_fail {b : List Int} (h : ¬ (8 ≤ b.length ∧ (b.length : Int) - 8 = 7 * hdN b)) : unOut b = ⟨.tup [.agg [.d (.v (.int .i64 0)), .d (.v (.int .i64 0)), .d (.v (.int .i64 0)), .d (.v (.int .i64 0)), .nil], .d (.v (.bool false))], []⟩ := by
  rw [unOut, if_neg]; unfold unOk; rw [decide_eq_false h]; simp
theorem un_pack {k t a b : Int} {l : List Xt} (h : validR k t a b l = true) : unOut (packR k t a b l) = ⟨.tup [.agg [.d (.v (.int .i64 k)), .d (.v (.int .i64 t)), .d (.v (.int .i64 a)), .d (.v (.int .i64 b)), .sl 0 5 0 l.length true], .d (.v (.bool true))], [(0, .row 35 5 (l.map eD))]⟩ := by
  obtain ⟨k0, k1, t0, t1, a0, a1, b0, b1, ho, hl⟩ := validR_facts h
  obtain ⟨h1, h2⟩ := head_packR (kind := k) (track := t) (a := a) (b := b) (l := l) ⟨by omega, by omega⟩ ⟨by omega, by omega⟩ ⟨by omega, by omega⟩ ⟨by omega, by omega⟩ (by omega)
  have hlen := packR_length k t a b l
  rw [takeR, takeL_head (by omega)] at h1
  simp only [Prod.mk.injEq, List.cons.injEq, and_true] at h1
  obtain ⟨e0, e1, e2, e3, e4⟩ := h1
  have eL : unL (packR k t a b l) = l := by
    unfold unL hdN
    rw [e4, h2, Int.toNat_natCast]
    exact takeE_exsB l ho
  have hz : unOk (packR k t a b l) = true := by
    unfold unOk hdK hdT hdA hdB
    rw [eL, e0, e1, e2, e3, h, decide_eq_true]
    · rfl
    · unfold hdN; rw [e4]; omega
  rw [unOut, if_pos hz, eL]
  unfold hdK hdT hdA hdB
  rw [e0, e1, e2, e3]
theorem hdN_pack {k t a b : Int} {l : List Xt} (h : validR k t a b l = true) (m : Nat) (hm : 8 ≤ m) (c : List Int) : hdN ((packR k t a b l ++ c).take m) = l.length := by
  obtain ⟨k0, k1, t0, t1, a0, a1, b0, b1, ho, hl⟩ := validR_facts h
  obtain ⟨h1, h2⟩ := head_packR (kind := k) (track := t) (a := a) (b := b) (l := l) ⟨by omega, by omega⟩ ⟨by omega, by omega⟩ ⟨by omega, by omega⟩ ⟨by omega, by omega⟩ (by omega)
  have hlen := packR_length k t a b l
  rw [takeR, takeL_head (by omega)] at h1
  simp only [Prod.mk.injEq, List.cons.injEq, and_true] at h1
  obtain ⟨e0, e1, e2, e3, e4⟩ := h1
  unfold hdN
  rw [← e4]
  congr 1
  rw [List.drop_take, List.take_take, List.drop_append_of_le_length (by omega), List.take_append_of_le_length (by rw [List.length_drop]; omega), show min 2 (m - 6) = 2 by omega]
/-- A byte fewer, or more, is none. -/
theorem un_less {k t a b : Int} {l : List Xt} (h : validR k t a b l = true) : unOut ((packR k t a b l).take ((packR k t a b l).length - 1)) = ⟨.tup [.agg [.d (.v (.int .i64 0)), .d (.v (.int .i64 0)), .d (.v (.int .i64 0)), .d (.v (.int .i64 0)), .nil], .d (.v (.bool false))], []⟩ := by
  have hlen := packR_length k t a b l
  refine un_fail fun ⟨h8, hn⟩ => ?_
  rw [List.length_take] at h8 hn
  have := hdN_pack h ((packR k t a b l).length - 1) (by omega) []
  rw [List.append_nil] at this
  rw [this] at hn
  omega
theorem un_more {k t a b : Int} {l : List Xt} (h : validR k t a b l = true) (x : Int) : unOut (packR k t a b l ++ [x]) = ⟨.tup [.agg [.d (.v (.int .i64 0)), .d (.v (.int .i64 0)), .d (.v (.int .i64 0)), .d (.v (.int .i64 0)), .nil], .d (.v (.bool false))], []⟩ := by
  have hlen := packR_length k t a b l
  refine un_fail fun ⟨h8, hn⟩ => ?_
  have h9 : (packR k t a b l ++ [x]).length = (packR k t a b l).length + 1 := by simp
  have := hdN_pack h (packR k t a b l ++ [x]).length (by omega) [x]
  rw [List.take_length] at this
  rw [this] at hn
  omega
theorem nil_B (l : List Int) : ([] = l.map mB) = (l = []) := by cases l <;> simp
theorem snoc_B (l : List Int) (x : Int) : l.map mB ++ [D.v (.int .u8 x)] = (l ++ [x]).map mB := by simp [mB]
theorem right_valid (k t a b : Int) (l : List Xt) :
    (∃ t', validR (1 + within k 5) t' 0 0 [] = true ∧ rightOut k t a b l = ⟨.agg [.d (.v (.int .i64 (1 + within k 5))), .d (.v (.int .i64 t')), .d (.v (.int .i64 0)), .d (.v (.int .i64 0)), .nil], []⟩) ∨
    (∃ t' a' b' r, validR (1 + within k 5) t' a' b' r = true ∧ rightOut k t a b l = ⟨.agg [.d (.v (.int .i64 (1 + within k 5))), .d (.v (.int .i64 t')), .d (.v (.int .i64 a')), .d (.v (.int .i64 b')), .sl 0 5 0 r.length true], [(0, .row 35 5 (r.map eD))]⟩) := by
  have w1 := within_rng (v := k) (n := 5) (by omega)
  have w2 := within_rng (v := t) (n := 100) (by omega)
  have w3 := within_rng (v := b) (n := 1001) (by omega)
  have w4 := within_rng (v := a) (n := within b 1001 + 1) (by omega)
  by_cases c1 : 1 + within k 5 = 1 ∨ 1 + within k 5 = 2
  · refine .inl ⟨within t 100, ?_, by rw [rightOut, if_pos c1]⟩
    rw [validR12 c1, noneR_eq]; simp; omega
  · by_cases c2 : 1 + within k 5 = 3
    · refine .inr ⟨within t 100, within a (within b 1001 + 1), within b 1001, rowG 20 0 l, ?_, by rw [rightOut, if_neg c1, if_pos c2]⟩
      rw [validR3 c2, (rowG_ok 20 0 l (by omega) (by omega)).1]; simp; omega
    · refine .inl ⟨0, ?_, by rw [rightOut, if_neg c1, if_neg c2]⟩
      rw [validR45 (by omega), noneR_eq]; simp
noncomputable def EB : Env := ⟨Try.prog, fun f ds out => (f = 6 ∧ Sp_overdublaw16_Right ds out) ∨ (f = 24 ∧ Sp_record_Pack ds out) ∨ (f = 8 ∧ Sp_record_Unpack ds out) ∨ (f = 31 ∧ Sp_record_Valid ds out) ∨ (f = 13 ∧ Sp_overdubkeep_Record ds out) ∨ (f = 15 ∧ Sp_record_Extents ds out) ∨ (f = 11 ∧ Sp_record_TakeExtents ds out) ∨ (f = 17 ∧ Sp_overdubkeep_Same_api_Extent ds out) ∨ (f = 18 ∧ Sp_overdublaw16_wakes ds out), Es⟩
theorem EB_sp : ∀ f ds out, EB.Sp f ds out → Ent EB.P f ∧ Good EB.P f (fun a b => a = ds ∧ b = out) := by
  rintro f ds out (⟨rfl, h⟩ | ⟨rfl, h⟩ | ⟨rfl, h⟩ | ⟨rfl, h⟩ | ⟨rfl, h⟩ | ⟨rfl, h⟩ | ⟨rfl, h⟩ | ⟨rfl, h⟩ | ⟨rfl, h⟩)
  · exact ⟨ent_overdublaw16_Right, good_overdublaw16_Right.one h⟩
  · exact ⟨ent_record_Pack, good_record_Pack.one h⟩
  · exact ⟨ent_record_Unpack, good_record_Unpack.one h⟩
  · exact ⟨ent_record_Valid, good_record_Valid.one h⟩
  · exact ⟨ent_overdubkeep_Record, good_overdubkeep_Record.one h⟩
  · exact ⟨ent_record_Extents, good_record_Extents.one h⟩
  · exact ⟨ent_record_TakeExtents, good_record_TakeExtents.one h⟩
  · exact ⟨ent_overdubkeep_Same_api_Extent, good_overdubkeep_Same_api_Extent.one h⟩
  · exact ⟨ent_overdublaw16_wakes, good_overdublaw16_wakes.one h⟩
theorem EB_ok : EB.Ok := ⟨EB_sp, Es_ok⟩
theorem sameR_self (k t a b : Int) (l : List Xt) : sameR k t a b l k t a b l = true := decide_eq_true ⟨rfl, rfl, rfl, rfl, rfl⟩
end Go.Proofs.Ytljohhinokaklaa.Am
