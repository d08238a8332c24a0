import Derived.Test.YtigkcigoiinkpaaZNK
import Derived.Test.YtigkcigoiinkpaaZCA
set_option linter.unusedVariables false
set_option linter.unusedSimpArgs false
set_option maxRecDepth 10000
namespace Go.Proofs.Ytigkcigoiinkpaa.Am
open Go Go.RowKit Go.Proofs
def leafP (l : List Xt) : List Int := nodP 1 l.length (exsB l)
theorem mayF_len {l : List Xt} (h : mayF l) : (exsB l).length ≤ 121 := by rw [exsB_length]; have := h.2.1; omega
theorem mayF_ok {l : List Xt} (h : mayF l) : ∀ e ∈ l, okE e := fun e he => by
  obtain ⟨i, hi, rfl⟩ := List.mem_iff_getElem.1 he
  have := (h.2.2 i hi).1
  rw [List.getD_eq_getElem?_getD, List.getElem?_eq_getElem hi] at this
  unfold inF at this
  unfold okE
  dsimp only [Option.getD_some] at this ⊢
  omega
theorem leaf_back {l : List Xt} (h : mayF l) : leafOk (leafP l) ∧ fE (leafP l) = l := by
  have hl := mayF_len h
  have e : fE (leafP l) = l := by
    unfold fE leafP
    rw [nodP_nN hl, nodP_nI hl, Int.toNat_natCast, ← exsB_length, List.take_left' rfl]
    exact takeE_exsB l (mayF_ok h)
  refine ⟨⟨(nodP_oH hl 1).2 rfl, ?_, by rw [e]; exact h, by rw [e]; rfl⟩, e⟩
  unfold leafP
  rw [nodP_nN hl]; have := h.2.1; omega
theorem kind_leaf {l : List Xt} (h : mayF l) : kindN (leafP l) = 1 := kindN_1 (leaf_back h).1
theorem dir_unlike {l m : List Ln} (h : mayD l) (k : mayD m) : dirP l = dirP m ↔ l = m := ⟨fun e => by rw [← (dir_back h).2, ← (dir_back k).2, e], fun e => by rw [e]⟩
theorem leaf_unlike {l m : List Xt} (h : mayF l) (k : mayF m) : leafP l = leafP m ↔ l = m := ⟨fun e => by rw [← (leaf_back h).2, ← (leaf_back k).2, e], fun e => by rw [e]⟩
theorem leaf_dir {l : List Xt} {m : List Ln} (h : mayF l) (k : mayD m) : leafP l ≠ dirP m := fun e => by
  have h1 := kind_leaf h
  rw [e, kind_dir k] at h1
  omega
end Go.Proofs.Ytigkcigoiinkpaa.Am
