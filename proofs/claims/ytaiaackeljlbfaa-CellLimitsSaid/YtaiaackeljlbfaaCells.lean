/- What the printed functions that cut data into cells come to, told by plain lists. -/
import Derived.Test.YtaiaackeljlbfaaField
namespace Go.Proofs.Ytaiaackeljlbfaa.QB
open Go.RowKit Go.Proofs.YtaiaackeljlbfaaW.PrintWords Go.Proofs.YtaiaackeljlbfaaW.PrintLast Go.Proofs.YtaiaackeljlbfaaW.PrintMore Go.Proofs.Ytaiaackeljlbfaa.Mth
set_option linter.unusedVariables false
set_option linter.unusedSimpArgs false

/-- d cells of these data, from number i on. -/
def splitL (life num P : Int) : List Int → Nat → Nat → List S29
  | _, _, 0 => []
  | data, i, d + 1 => ⟨life, num, i, P, data.take 112⟩ :: splitL life num P (data.drop 112) (i + 1) d
def partsOf (n : Nat) : Nat := max 1 ((n + 111) / 112)
theorem splitL_length (life num P : Int) : ∀ (d : Nat) (data : List Int) (i : Nat), (splitL life num P data i d).length = d
  | 0, _, _ => rfl
  | d + 1, data, i => by simp [splitL, splitL_length life num P d]
theorem splitL_get (life num P : Int) : ∀ (d : Nat) (data : List Int) (i j : Nat), j < d →
    (splitL life num P data i d)[j]? = some ⟨life, num, ((i + j : Nat) : Int), P, (data.drop (112 * j)).take 112⟩
  | 0, _, _, _, h => by omega
  | d + 1, data, i, 0, _ => by simp [splitL]
  | d + 1, data, i, j + 1, h => by
    simp only [splitL, List.getElem?_cons_succ]
    rw [splitL_get life num P d _ (i + 1) j (by omega), List.drop_drop, show i + 1 + j = i + (j + 1) by omega, show 112 + 112 * j = 112 * (j + 1) by omega]
theorem splitL_rd (life num P : Int) {d : Nat} {data : List Int} {j : Nat} (h : j < d) :
    rd_T29 (splitL life num P data 0 d) (j : Int) = ⟨life, num, (j : Int), P, (data.drop (112 * j)).take 112⟩ := by
  unfold rd_T29
  rw [Int.toNat_natCast, List.getD_eq_getElem?_getD, splitL_get life num P d data 0 j h]
  simp

theorem split_l0 (life num P : Int) (N : Nat) (hN : N ≤ 64) (d : Nat) : ∀ (data : List Int) (out : List S29) (i : Nat), i + d = N → out.length = i → data.length ≤ 140737488351232 →
    Ev (fun k => cells_Split.l0 k life num data P out (N : Int) (i : Int)) (out ++ splitL life num P data i d, 0) := by
  induction d with
  | zero =>
    intro data out i h _ _
    refine Ev.step (f := fun _ => some (out ++ splitL life num P data i 0, 0)) (fun k => ?_) (ev_some _)
    simp only [cells_Split.l0]
    rw [if_neg (by omega)]; simp [splitL]
  | succ d ih =>
    intro data out i h ho hl
    have ih := ih (data.drop 112) (out ++ [⟨life, num, i, P, data.take 112⟩]) (i + 1) (by omega) (by simp; omega) (by simp; omega)
    refine Ev.step (fun k => ?_) (show Ev _ (out ++ splitL life num P data i (d + 1), 0) by simpa [splitL, List.append_assoc] using ih)
    simp only [cells_Split.l0]
    have ht : data.take (min (data.length : Int) 112).toNat = data.take 112 := by
      by_cases hc : 112 ≤ data.length
      · rw [show (min (data.length : Int) 112).toNat = 112 by omega]
      · rw [show (min (data.length : Int) 112).toNat = data.length by omega, List.take_of_length_le (by omega), List.take_of_length_le (by omega)]
    have hd : data.drop (min (data.length : Int) 112).toNat = data.drop 112 := by
      by_cases hc : 112 ≤ data.length
      · rw [show (min (data.length : Int) 112).toNat = 112 by omega]
      · rw [show (min (data.length : Int) 112).toNat = data.length by omega, List.drop_of_length_le (by omega), List.drop_of_length_le (by omega)]
    rw [mn_eq, if_pos (by omega), if_pos (by omega), if_pos (by omega), ht, hd, Option.bind_some, if_pos (by simp; omega), if_pos (by omega), w64 (by omega) (by omega)]
    simp
theorem split_ev (life num : Int) {data : List Int} (hl : data.length ≤ 7168) :
    Ev (fun k => cells_Split.f k life num data) (splitL life num (partsOf data.length : Int) data 0 (partsOf data.length), 0) := by
  have hp : partsOf data.length ≤ 64 := by unfold partsOf; omega
  have h := split_l0 life num (partsOf data.length : Int) (partsOf data.length) hp (partsOf data.length) data [] 0 (by omega) rfl (by omega)
  rw [List.nil_append] at h
  refine Ev.congr (fun k => ?_) h
  unfold cells_Split.f
  have e : mx 1 (wrap64 (Int.tdiv (wrap64 ((wrap64 ((data.length : Int) + 112)) - 1)) 112)) = (partsOf data.length : Int) := by
    rw [mx_eq, w64 (x := (data.length : Int) + 112) (by omega) (by omega), w64 (x := (data.length : Int) + 112 - 1) (by omega) (by omega), Int.tdiv_eq_ediv_of_nonneg (by omega), w64 (by omega) (by omega)]
    unfold partsOf; omega
  rw [e, if_neg (by omega)]
  rfl
theorem split_long (life num : Int) {data : List Int} (hl : 7168 < data.length) (hm : data.length ≤ 140737488351232) :
    Ev (fun k => cells_Split.f k life num data) ([], 4) := by
  refine ev_now (fun k => ?_)
  unfold cells_Split.f
  rw [mx_eq, w64 (x := (data.length : Int) + 112) (by omega) (by omega), w64 (x := (data.length : Int) + 112 - 1) (by omega) (by omega), Int.tdiv_eq_ediv_of_nonneg (by omega), w64 (by omega) (by omega), if_pos (by omega)]

theorem wakes15 : Ev (fun k => overdublaw15_wakes.f k) true := by
  unfold overdublaw15_wakes.f
  simp only [if_pos (show 113 ≤ 281474976710656 by omega)]
  refine Ev.bind (split_ev 1 1 (data := List.replicate 113 0) (by simp)) ?_
  have e : partsOf (List.replicate 113 (0 : Int)).length = 2 := by simp [partsOf]
  rw [e, splitL_length]
  have r : rd_T29 (splitL 1 1 ((2 : Nat) : Int) (List.replicate 113 0) 0 2) 1 = _ := splitL_rd 1 1 ((2 : Nat) : Int) (d := 2) (data := List.replicate 113 0) (j := 1) (by omega)
  simp only [r, if_true, if_pos (show ((2 : Nat) : Int) = 2 by rfl), if_pos (show (1 : Int) < ((2 : Nat) : Int) by omega)]
  have e1 : (((((List.replicate 113 (0 : Int)).drop (112 * 1)).take 112).length : Int) == 1) = true := by simp
  rw [e1]
  exact ev_some _

theorem cell_same (k a b c : Int) (l : List Int) (hl : l.length < 9223372036854775807) : Ev (fun n => overdubkeep_Cell.f n k a b c l k a b c l) true := by
  unfold overdubkeep_Cell.f
  simp only [if_true]
  have h := same_byte_ev l l hl
  simp only [decide_true] at h
  exact Ev.bind h (ev_some _)

end Go.Proofs.Ytaiaackeljlbfaa.QB
