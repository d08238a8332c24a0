import Derived.Test.YtceoegbljkbgeaaZS4
set_option linter.unusedVariables false
set_option linter.unusedSimpArgs false
namespace Go.Proofs.Ytceoegbljkbgeaa.Am
open Go Go.RowKit Go.Proofs
def u32 (n : Int) : Prop := 0 ≤ n ∧ n < 4294967296
theorem padL_short {l : List Int} (h : l.length ≤ 124) : padL l = l ++ List.replicate (124 - l.length) 0 := by
  unfold padL
  rw [show min l.length 124 = l.length by omega, List.take_length, List.drop_replicate]
theorem sealL_take (l : List Int) : (sealL l).take 124 = padL l := by
  unfold sealL; exact List.take_left' (padL_len l)
theorem sealL_open (l : List Int) : isOpen (sealL l) := by
  refine ⟨sealL_len l, ?_⟩
  rw [sealL_take]
  unfold sealL
  exact (List.drop_left' (padL_len l)).symm
theorem putB4 {n : Int} (h : u32 n) : leV (putB (max 0 n) 4) = n := by
  rw [putB_leB, show max 0 n = n by have := h.1; omega]
  exact leV_leB_small h.1 h.2
theorem sM_sup (g l d r c : Int) : sM (supP g l d r c) = putB (max 0 g) 4 ++ (putB (max 0 l) 4 ++ (putB (max 0 d) 4 ++ (putB (max 0 r) 4 ++ (putB (max 0 c) 4 ++ List.replicate 96 0)))) := by
  unfold sM supP
  rw [sealL_take, padL_short (by rw [supL_len]; omega), supL_len]
  unfold supL
  simp only [List.append_assoc]
  exact List.drop_left' (by rfl)
theorem reads_sup {g l d r c : Int} (hg : u32 g) (hl : u32 l) (hd : u32 d) (hr : u32 r) (hc : u32 c) :
    sG (supP g l d r c) = g ∧ sI (supP g l d r c) = l ∧ sD (supP g l d r c) = d ∧ sR (supP g l d r c) = r ∧ sC (supP g l d r c) = c := by
  have len : ∀ n : Int, (putB n 4).length = 4 := fun n => putB_len n 4
  have d4 : ∀ (x : Int) (t : List Int), (putB x 4 ++ t).drop 4 = t := fun x t => List.drop_left' (len x)
  have t4 : ∀ (x : Int) (t : List Int), (putB x 4 ++ t).take 4 = putB x 4 := fun x t => List.take_left' (len x)
  have e1 : (sM (supP g l d r c)).drop 4 = putB (max 0 l) 4 ++ (putB (max 0 d) 4 ++ (putB (max 0 r) 4 ++ (putB (max 0 c) 4 ++ List.replicate 96 0))) := by rw [sM_sup, d4]
  have e2 : (sM (supP g l d r c)).drop 8 = putB (max 0 d) 4 ++ (putB (max 0 r) 4 ++ (putB (max 0 c) 4 ++ List.replicate 96 0)) := by rw [show 8 = 4 + 4 from rfl, ← List.drop_drop, e1, d4]
  have e3 : (sM (supP g l d r c)).drop 12 = putB (max 0 r) 4 ++ (putB (max 0 c) 4 ++ List.replicate 96 0) := by rw [show 12 = 8 + 4 from rfl, ← List.drop_drop, e2, d4]
  have e4 : (sM (supP g l d r c)).drop 16 = putB (max 0 c) 4 ++ List.replicate 96 0 := by rw [show 16 = 12 + 4 from rfl, ← List.drop_drop, e3, d4]
  unfold sG sI sD sR sC
  rw [e1, e2, e3, e4, sM_sup, t4, t4, t4, t4, t4]
  exact ⟨putB4 hg, putB4 hl, putB4 hd, putB4 hr, putB4 hc⟩
theorem sOk_sup {g l d r c : Int} (hg : u32 g) (hl : u32 l) (hd : u32 d) (hr : u32 r) (hc : u32 c) : sOk (supP g l d r c) ↔ sRng g l d r c := by
  obtain ⟨e1, e2, e3, e4, e5⟩ := reads_sup hg hl hd hr hc
  unfold sOk
  rw [e1, e2, e3, e4, e5]
  exact ⟨fun h => h.2.1, fun h => ⟨sealL_open _, h, rfl⟩⟩
theorem supP_inj {g l d r c g' l' d' r' c' : Int} (hg : u32 g) (hl : u32 l) (hd : u32 d) (hr : u32 r) (hc : u32 c) (hg' : u32 g') (hl' : u32 l') (hd' : u32 d') (hr' : u32 r') (hc' : u32 c') :
    supP g l d r c = supP g' l' d' r' c' ↔ (g = g' ∧ l = l' ∧ d = d' ∧ r = r' ∧ c = c') := by
  constructor
  · intro h
    obtain ⟨e1, e2, e3, e4, e5⟩ := reads_sup hg hl hd hr hc
    obtain ⟨f1, f2, f3, f4, f5⟩ := reads_sup hg' hl' hd' hr' hc'
    rw [h] at e1 e2 e3 e4 e5
    exact ⟨e1.symm.trans f1, e2.symm.trans f2, e3.symm.trans f3, e4.symm.trans f4, e5.symm.trans f5⟩
  · rintro ⟨rfl, rfl, rfl, rfl, rfl⟩; rfl
theorem sOk_less (b : List Int) (h : b.length ≠ 128) : ¬ sOk b := fun k => h k.1.1
theorem supP_byt (g l d r c : Int) : Byt (supP g l d r c) := sealL_byt (by
  unfold supL; simp only [putB_leB]
  exact byt_append (fun x hx => by simp [wordL] at hx; omega) (byt_append (leB_byt _ _) (byt_append (leB_byt _ _) (byt_append (leB_byt _ _) (byt_append (leB_byt _ _) (leB_byt _ _))))))
theorem supP_len (g l d r c : Int) : (supP g l d r c).length = 128 := sealL_len _
structure Su where
  g : Int
  l : Int
  d : Int
  r : Int
def smS (s : Su) : Prop := 1 ≤ s.g ∧ s.g ≤ 9 ∧ 1 ≤ s.l ∧ s.l ≤ 9 ∧ 0 ≤ s.d ∧ s.d ≤ 8 ∧ 0 ≤ s.r ∧ s.r ≤ 89
def bxS (s : Su) : List V := [.d (.v (.int .i64 s.g)), .d (.v (.int .i64 s.l)), .d (.v (.int .i64 s.d)), .d (.v (.int .i64 s.r))]
def small (g l d r : Int) : Su := ⟨1 + within g 9, 1 + within l 9, within d 9, within r 90⟩
theorem small_ok (g l d r : Int) : smS (small g l d r) := by
  have w1 := within_rng (v := g) (n := 9) (by omega)
  have w2 := within_rng (v := l) (n := 9) (by omega)
  have w3 := within_rng (v := d) (n := 9) (by omega)
  have w4 := within_rng (v := r) (n := 90) (by omega)
  unfold smS small; dsimp only; omega
end Go.Proofs.Ytceoegbljkbgeaa.Am
