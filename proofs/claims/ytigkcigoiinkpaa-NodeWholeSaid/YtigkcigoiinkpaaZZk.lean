import Derived.Test.YtigkcigoiinkpaaZAmB
set_option linter.unusedVariables false
namespace Go.Proofs.Ytigkcigoiinkpaa.Am
open Go Go.RowKit Go.Proofs
section
variable {E : Env} {ops : Array Oper} {o : Oper} {r : List Oper} {st : St} {K : List (V × List (Nat × Ob)) → St → Prop} {acc : List (V × List (Nat × Ob))}
theorem awc_skip {j : Nat} {want : Bool} {t : Tmp} {l : Array Value} (hg : o.guard = some (j, want)) (ht : gvt ops j = some t) (htn : t < st.nt) (hb : gt st.tm t = .d (.v (.tuple l))) (hd : dOkb o.dst st.nt = true)
    (h2 : Awc E ops r (st.upd o.dst (.d (.v undef)) []) (acc ++ [(.d (.v undef), [])]) K) : Awc E ops (o :: r) st acc K := by
  have hv : gv ops st j = some none := by
    unfold gvt at ht
    unfold gv
    split at ht
    · rename_i q hq
      simp only [hq, ht, if_pos htn, hb]
    · cases ht
  refine ⟨?_⟩
  simp only [awc, ev1, hg, hv]
  exact ⟨dOkb_ok hd, h2.h⟩
variable {δ : List (V × List (Nat × Ob))} {dd : List (Option Tmp)} {css : List (List (Option Bool))} {cs : List (Option Bool)} {os : List Oper} {ds : List (V × List (Nat × Ob))}
theorem each_skip {j : Nat} {want : Bool} {t : Tmp} {l : Array Value} (hg : o.guard = some (j, want)) (ht : gvt ops j = some t) (htn : t < st.nt) (hb : ∀ b, gt (Sg3 b cs 0 dd δ st).tm t = .d (.v (.tuple l))) (hd : dOkb o.dst st.nt = true)
    (hr : Each E ops dd st δ css os ds) : Each E ops dd st δ (cs :: css) (o :: os) ((.d (.v undef), []) :: ds) := by
  refine ⟨?_⟩
  simp only [eachT]
  refine ⟨fun b K hK => ?_, hr.h⟩
  have hnt : (Sg3 b cs 0 dd δ st).nt = st.nt := Sg3_nt _ _ _ _ _
  have hv : gv ops (Sg3 b cs 0 dd δ st) j = some none := by
    unfold gvt at ht
    unfold gv
    split at ht
    · rename_i q hq
      simp only [hq, ht, hnt, if_pos htn, hb]
    · cases ht
  simp only [ev1, hg, hv]
  exact ⟨by rw [hnt]; exact dOkb_ok hd, hK⟩
end
end Go.Proofs.Ytigkcigoiinkpaa.Am
