/- The abstract machine, part 10: other names for what is owned; results; calls. -/
import Derived.Test.YtljohhinokaklaaAmC
set_option linter.unusedVariables false
set_option linter.unusedSimpArgs false
namespace Go.Proofs.Ytljohhinokaklaa.Am
open Go Go.RowKit

def ren1 (ρ : Nat → Nat) : V → V
  | .sl id sz off len full => .sl (ρ id) sz off len full
  | .ptr id off => .ptr (ρ id) off
  | .ep id sz i c => .ep (ρ id) sz i c
  | x => x
def ren2 (ρ : Nat → Nat) : V → V
  | .agg l => .agg (l.map (ren1 ρ))
  | x => ren1 ρ x
def ren (ρ : Nat → Nat) : V → V
  | .tup l => .tup (l.map (ren2 ρ))
  | x => ren2 ρ x
def renO (ρ : Nat → Nat) : Ob → Ob
  | .box l => .box (l.map (ren1 ρ))
  | x => x
/-- All that is never written in it is such; its shape is plain; its places are among those (dom). -/
def va1 (Pd : D → Prop) (dom : Nat → Prop) : V → Prop
  | .d x => Pd x
  | .sl id _ _ _ _ => dom id
  | .ptr id _ => dom id
  | .ep id _ _ _ => dom id
  | .agg _ => False
  | .tup _ => False
  | _ => True
def va2 (Pd : D → Prop) (dom : Nat → Prop) : V → Prop
  | .agg l => ∀ x ∈ l, va1 Pd dom x
  | x => va1 Pd dom x
def va (Pd : D → Prop) (dom : Nat → Prop) : V → Prop
  | .tup l => ∀ x ∈ l, va2 Pd dom x
  | x => va2 Pd dom x
def vaO (Pd : D → Prop) (dom : Nat → Prop) : Ob → Prop
  | .row _ _ l => ∀ d ∈ l, Pd d
  | .box l => ∀ x ∈ l, va1 Pd dom x
  | .dead => False

section
variable {φ φ' : Nat → Option Value} {w : World} {ok ok' : Nat → Prop} {ρ : Nat → Nat} {Pd : D → Prop} {dom : Nat → Prop}
/-- Forth: a value under new names. -/
theorem vr_ren1 (hφ : ∀ id v, φ id = some v → dom id → φ' (ρ id) = some v) (hD : ∀ d y, Pd d → Rd w ok d y → Rd w ok' d y) {x : V} {y : Value} (h : VR φ w ok x y) (ha : va1 Pd dom x) : VR φ' w ok' (ren1 ρ x) y := by
  cases h with
  | d x y h => exact .d _ _ (hD _ _ ha h)
  | nil => exact .nil
  | sl id sz off len full u A c hid hc hf ha' => exact .sl _ _ _ _ _ u A c (hφ _ _ hid ha) hc hf ha'
  | ptr id off b hid => exact .ptr _ _ b (hφ _ _ hid ha)
  | ep id sz i c b n cap hid => exact .ep _ _ _ _ b n cap (hφ _ _ hid ha)
  | agg l cs hl h1 h => exact ha.elim
  | tup l cs hl h => exact ha.elim
  | junk y => exact .junk y
theorem vr_ren2 (hφ : ∀ id v, φ id = some v → dom id → φ' (ρ id) = some v) (hD : ∀ d y, Pd d → Rd w ok d y → Rd w ok' d y) {x : V} {y : Value} (h : VR φ w ok x y) (ha : va2 Pd dom x) : VR φ' w ok' (ren2 ρ x) y := by
  cases h with
  | agg l cs hl h1 h =>
    refine .agg _ _ (by simpa using hl) h1 fun j x y hx hy => ?_
    rw [List.getElem?_map] at hx
    obtain ⟨z, hz, rfl⟩ := Option.map_eq_some_iff.1 hx
    exact vr_ren1 hφ hD (h j z y hz hy) (ha z (List.mem_of_getElem? hz))
  | tup l cs hl h => exact ha.elim
  | d x y h => exact vr_ren1 hφ hD (.d x y h) ha
  | nil => exact .nil
  | sl id sz off len full u A c hid hc hf ha' => exact vr_ren1 hφ hD (.sl id sz off len full u A c hid hc hf ha') ha
  | ptr id off b hid => exact vr_ren1 hφ hD (.ptr id off b hid) ha
  | ep id sz i c b n cap hid => exact vr_ren1 hφ hD (.ep id sz i c b n cap hid) ha
  | junk y => exact .junk y
theorem vr_ren (hφ : ∀ id v, φ id = some v → dom id → φ' (ρ id) = some v) (hD : ∀ d y, Pd d → Rd w ok d y → Rd w ok' d y) {x : V} {y : Value} (h : VR φ w ok x y) (ha : va Pd dom x) : VR φ' w ok' (ren ρ x) y := by
  cases h with
  | tup l cs hl h =>
    refine .tup _ _ (by simpa using hl) fun j x y hx hy => ?_
    rw [List.getElem?_map] at hx
    obtain ⟨z, hz, rfl⟩ := Option.map_eq_some_iff.1 hx
    exact vr_ren2 hφ hD (h j z y hz hy) (ha z (List.mem_of_getElem? hz))
  | agg l cs hl h1 h => exact vr_ren2 hφ hD (.agg l cs hl h1 h) ha
  | d x y h => exact vr_ren1 hφ hD (.d x y h) ha
  | nil => exact .nil
  | sl id sz off len full u A c hid hc hf ha' => exact vr_ren1 hφ hD (.sl id sz off len full u A c hid hc hf ha') ha
  | ptr id off b hid => exact vr_ren1 hφ hD (.ptr id off b hid) ha
  | ep id sz i c b n cap hid => exact vr_ren1 hφ hD (.ep id sz i c b n cap hid) ha
  | junk y => exact .junk y
/-- Back: a value whose new name is known. -/
theorem vr_back1 (hφ : ∀ id v, φ (ρ id) = some v → dom id → φ' id = some v) (hD : ∀ d y, Pd d → Rd w ok d y → Rd w ok' d y) {x : V} {y : Value} (h : VR φ w ok (ren1 ρ x) y) (ha : va1 Pd dom x) : VR φ' w ok' x y := by
  cases x with
  | d x => cases h with | d _ _ h => exact .d _ _ (hD _ _ ha h)
  | nil => cases h; exact .nil
  | sl id sz off len full => cases h with | sl _ _ _ _ _ u A c hid hc hf ha' => exact .sl _ _ _ _ _ u A c (hφ _ _ hid ha) hc hf ha'
  | ptr id off => cases h with | ptr _ _ b hid => exact .ptr _ _ b (hφ _ _ hid ha)
  | ep id sz i c => cases h with | ep _ _ _ _ b n cap hid => exact .ep _ _ _ _ b n cap (hφ _ _ hid ha)
  | agg l => exact ha.elim
  | tup l => exact ha.elim
  | junk => exact .junk y
theorem vr_back2 (hφ : ∀ id v, φ (ρ id) = some v → dom id → φ' id = some v) (hD : ∀ d y, Pd d → Rd w ok d y → Rd w ok' d y) {x : V} {y : Value} (h : VR φ w ok (ren2 ρ x) y) (ha : va2 Pd dom x) : VR φ' w ok' x y := by
  cases x with
  | agg l =>
    cases h with
    | agg _ cs hl h1 h =>
      refine .agg _ _ (by simpa using hl) h1 fun j x y hx hy => ?_
      exact vr_back1 hφ hD (h j (ren1 ρ x) y (by rw [List.getElem?_map, hx]; rfl) hy) (ha x (List.mem_of_getElem? hx))
  | tup l => exact ha.elim
  | d x => exact vr_back1 hφ hD (x := .d x) h ha
  | nil => exact vr_back1 hφ hD (x := .nil) h ha
  | sl a b c d e => exact vr_back1 hφ hD (x := .sl a b c d e) h ha
  | ptr a b => exact vr_back1 hφ hD (x := .ptr a b) h ha
  | ep a b c d => exact vr_back1 hφ hD (x := .ep a b c d) h ha
  | junk => exact .junk y
theorem vr_back (hφ : ∀ id v, φ (ρ id) = some v → dom id → φ' id = some v) (hD : ∀ d y, Pd d → Rd w ok d y → Rd w ok' d y) {x : V} {y : Value} (h : VR φ w ok (ren ρ x) y) (ha : va Pd dom x) : VR φ' w ok' x y := by
  cases x with
  | tup l =>
    cases h with
    | tup _ cs hl h =>
      refine .tup _ _ (by simpa using hl) fun j x y hx hy => ?_
      exact vr_back2 hφ hD (h j (ren2 ρ x) y (by rw [List.getElem?_map, hx]; rfl) hy) (ha x (List.mem_of_getElem? hx))
  | agg l => exact vr_back2 hφ hD (x := .agg l) h ha
  | d x => exact vr_back1 hφ hD (x := .d x) h ha
  | nil => exact vr_back1 hφ hD (x := .nil) h ha
  | sl a b c d e => exact vr_back1 hφ hD (x := .sl a b c d e) h ha
  | ptr a b => exact vr_back1 hφ hD (x := .ptr a b) h ha
  | ep a b c d => exact vr_back1 hφ hD (x := .ep a b c d) h ha
  | junk => exact .junk y
end
def tt (_ : D) : Prop := True
def inDom (hp : List (Nat × Ob)) (id : Nat) : Prop := go hp id ≠ none
/-- hp', under the names ρ, is a part of hp. -/
structure Sub (ρ : Nat → Nat) (hp hp' : List (Nat × Ob)) : Prop where
  get : ∀ p ∈ hp', go hp (ρ p.1) = some (renO ρ p.2) ∧ vaO tt (inDom hp') p.2
  inj : ∀ p ∈ hp', ∀ q ∈ hp', ρ p.1 = ρ q.1 → p.1 = q.1
theorem go_mem : ∀ {l : List (Nat × Ob)} {id : Nat} {o : Ob}, go l id = some o → (id, o) ∈ l
  | [], _, _, h => by simp [go] at h
  | (k, x) :: r, id, o, h => by
    simp only [go] at h
    split at h
    · rename_i e; subst e; cases h; simp
    · exact List.mem_cons_of_mem _ (go_mem h)
theorem Sub.hr {w0 w : World} {oa : Nat → Prop} {φ : Nat → Option Value} {hp hp' : List (Nat × Ob)} {ρ : Nat → Nat} (h : HR w0 oa φ (go hp) w) (s : Sub ρ hp hp') :
    ∃ φ', HR w0 oa φ' (go hp') w ∧ (∀ b, okB w0 oa φ (go hp) w b → okB w0 oa φ' (go hp') w b) ∧ (∀ id v, φ (ρ id) = some v → inDom hp' id → φ' id = some v) := by
  have hφ' : ∀ id v, φ (ρ id) = some v → inDom hp' id → (fun id => if go hp' id = none then none else φ (ρ id)) id = some v := by
    intro id v hv hd
    show (if go hp' id = none then none else φ (ρ id)) = some v
    rw [if_neg hd]; exact hv
  have hback : ∀ id v, (fun id => if go hp' id = none then none else φ (ρ id)) id = some v → φ (ρ id) = some v := by
    intro id v hv
    simp only at hv
    split at hv
    · cases hv
    · exact hv
  have hnd : ∀ {o : Ob}, vaO tt (inDom hp') o → renO ρ o ≠ .dead := by
    intro o ho
    cases o with
    | dead => exact ho.elim
    | row e sz l => simp [renO]
    | box l => simp [renO]
  have hok : ∀ b, okB w0 oa φ (go hp) w b → okB w0 oa (fun id => if go hp' id = none then none else φ (ρ id)) (go hp') w b := by
    intro b hb
    refine ⟨hb.1, fun id o v ho hn hv => ?_⟩
    obtain ⟨g1, g2⟩ := s.get _ (go_mem ho)
    exact hb.2 (ρ id) _ v g1 (hnd g2) (hback _ _ hv)
  refine ⟨_, ⟨h.below, fun id o ho => ?_, fun id hid => ?_, fun id id' o o' v v' ho ho' hn hn' hne hv hv' => ?_⟩, hok, hφ'⟩
  · obtain ⟨g1, g2⟩ := s.get _ (go_mem ho)
    have hd : inDom hp' id := by unfold inDom; rw [ho]; simp
    have hobj := h.obj _ _ g1
    cases o with
    | dead => trivial
    | row e sz l =>
      obtain ⟨u, cs, hu, hs, hw, hr⟩ := hobj
      exact ⟨u, cs, hφ' _ _ hu hd, hs, hw, hr.mono (fun _ _ => rfl) hok⟩
    | box l =>
      obtain ⟨b, t, cs, hu, hb, hh, hl, h1, hr⟩ := hobj
      refine ⟨b, t, cs, hφ' _ _ hu hd, hb, hh, by simpa using hl, h1, fun j x y hx hy => ?_⟩
      exact vr_back1 (Pd := tt) (dom := inDom hp') hφ' (fun d y _ hr => hr.mono (fun _ _ => rfl) hok) (hr j (ren1 ρ x) y (by rw [List.getElem?_map, hx]; rfl) hy) (g2 x (List.mem_of_getElem? hx))
  · show (if go hp' id = none then none else φ (ρ id)) = none
    rw [if_pos hid]
  · obtain ⟨g1, g2⟩ := s.get _ (go_mem ho)
    obtain ⟨g1', g2'⟩ := s.get _ (go_mem ho')
    exact h.inj (ρ id) (ρ id') _ _ v v' g1 g1' (hnd g2) (hnd g2') (fun e => hne (s.inj _ (go_mem ho) _ (go_mem ho') e)) (hback _ _ hv) (hback _ _ hv')
/-- A weaker state: some slots forgotten, other names. -/
structure Wk (ρ : Nat → Nat) (st st' : St) : Prop where
  nt : st'.nt = st.nt
  tm : ∀ p ∈ st'.tm, p.2 = .junk ∨ (gt st.tm p.1 = ren ρ p.2 ∧ va tt (inDom st'.hp) p.2)
  hp : Sub ρ st.hp st'.hp
theorem gt_mem : ∀ {l : List (Nat × V)} {k : Nat}, gt l k = .junk ∨ (k, gt l k) ∈ l
  | [], k => .inl rfl
  | (j, x) :: r, k => by
    simp only [gt]
    split
    · rename_i e; subst e; exact .inr (by simp)
    · exact (gt_mem (l := r) (k := k)).imp id (List.mem_cons_of_mem _)
theorem Wk.sr {ρ : Nat → Nat} {st st' : St} (h : Wk ρ st st') {w0 w : World} {oa : Nat → Prop} {a : Act} (hs : SR w0 oa st a w) : SR w0 oa st' a w := by
  obtain ⟨φ, hs⟩ := hs.open
  obtain ⟨φ', h1, h2, h3⟩ := h.hp.hr hs.hr
  refine ⟨φ', h1, by rw [h.nt]; exact hs.sz, hs.df, fun k => ?_⟩
  rcases gt_mem (l := st'.tm) (k := k) with hj | hm
  · rw [hj]; exact .junk _
  · rcases h.tm _ hm with hj | ⟨he, ha⟩
    · have : gt st'.tm k = .junk := hj
      rw [this]; exact .junk _
    · have hv := hs.tm k
      rw [show gt st.tm k = ren ρ (gt st'.tm k) from he] at hv
      exact vr_back h3 (fun d y _ hr => hr.mono (fun _ _ => rfl) h2) hv ha

/-! ### contracts -/
structure Out where
  val : V
  obs : List (Nat × Ob)
/-- What a call comes to: by what its arguments say, what it gives. -/
def Good (P : Program) (f : FuncId) (Sp : List D → Out → Prop) : Prop :=
  ∀ ds out, Sp ds out → ∀ (oa : Nat → Prop) (args : Array Value) (w : World), args.size = ds.length →
    (∀ (i : Nat) (d : D) (y : Value), ds[i]? = some d → args[i]? = some y → Rd w (fun b => oa b ∧ b < w.heap.size) d y) →
    Calls P f args w fun e w' => ∃ y, e = .returned y ∧ ∃ φ, HR w oa φ (go out.obs) w' ∧ VR φ w' (okB w oa φ (go out.obs) w') out.val y
def Ent (P : Program) (f : FuncId) : Prop := ∃ fn, P.funcs[f]? = some fn ∧ fn.body.isSome = true ∧ (fn.name == "runtime.NumGoroutine") = false
def outA (Pd : D → Prop) (out : Out) : Prop := va Pd (inDom out.obs) out.val ∧ ∀ p ∈ out.obs, vaO Pd (inDom out.obs) p.2
def shift (n : Nat) (i : Nat) : Nat := n + 1000 * i
theorem go_app (l m : List (Nat × Ob)) (k : Nat) : go (l ++ m) k = match go l k with | some o => some o | none => go m k := by
  induction l with
  | nil => rfl
  | cons p r ih =>
    obtain ⟨j, x⟩ := p
    simp only [List.cons_append, go]
    split
    · rfl
    · exact ih
def renM (n : Nat) (m : List (Nat × Ob)) : List (Nat × Ob) := m.map fun p => (shift n p.1, renO (shift n) p.2)
theorem go_renM (n : Nat) : ∀ (m : List (Nat × Ob)) (i : Nat), go (renM n m) (shift n i) = (go m i).map (renO (shift n))
  | [], i => rfl
  | (k, x) :: r, i => by
    have ih := go_renM n r i
    simp only [renM, List.map_cons, go] at ih ⊢
    by_cases h : i = k
    · subst h; simp
    · rw [if_neg (fun e => h (by simp only [shift] at e; omega)), if_neg h]
      exact ih
theorem go_renM_some (n : Nat) : ∀ (m : List (Nat × Ob)) (k : Nat) (o : Ob), go (renM n m) k = some o → ∃ i x, k = shift n i ∧ go m i = some x ∧ o = renO (shift n) x
  | [], k, o, h => by simp [renM, go] at h
  | (j, x) :: r, k, o, h => by
    simp only [renM, List.map_cons, go] at h
    split at h
    · rename_i e
      cases h
      exact ⟨j, x, e, by simp [go], rfl⟩
    · rename_i e
      obtain ⟨i, y, rfl, hy, rfl⟩ := go_renM_some n r k o h
      refine ⟨i, y, rfl, ?_, rfl⟩
      simp only [go]
      rw [if_neg (fun e2 => e (by rw [e2]))]
      exact hy
/-- What a call gives becomes the caller's own. -/
theorem call_state {w0 w w' : World} {oa oa' : Nat → Prop} {φ φ1 : Nat → Option Value} {st : St} {a : Act} (h : SRp w0 oa φ st a w) {out : Out} {y : Value} {n : Nat} (hfr : ∀ p ∈ out.obs, go st.hp (shift n p.1) = none) {Pd : D → Prop} (hA : outA Pd out)
    (h1 : HR w oa' φ1 (go out.obs) w') (hv : VR φ1 w' (okB w oa' φ1 (go out.obs) w') out.val y)
    (hD : ∀ (ok : Nat → Prop), (∀ b, okB w (okB w0 oa φ (go st.hp) w) φ1 (go out.obs) w' b → ok b) → ∀ d z, Pd d → Rd w' (okB w oa' φ1 (go out.obs) w') d z → Rd w' ok d z) :
    ∃ φ2, SRp w0 oa φ2 { st with hp := renM n out.obs ++ st.hp } a w' ∧ VR φ2 w' (okB w0 oa φ2 (go (renM n out.obs ++ st.hp)) w') (ren (shift n) out.val) y := by
  have hnone : ∀ i o, go out.obs i = some o → go st.hp (shift n i) = none := fun i o ho => hfr _ (go_mem ho)
  have hbw := h1.below
  have hsh : ∀ i j, shift n i = shift n j → i = j := by intro i j e; simp only [shift] at e; omega
  obtain ⟨φ2, hφ2⟩ : ∃ φ2 : Nat → Option Value, φ2 = fun k => match φ k with | some v => some v | none => if go (renM n out.obs) k = none then none else φ1 ((k - n) / 1000) := ⟨_, rfl⟩
  have hold : ∀ id v, φ id = some v → φ2 id = some v := by intro id v hv; rw [hφ2]; simp [hv]
  have hnew : ∀ i v, φ1 i = some v → inDom out.obs i → φ2 (shift n i) = some v := by
    intro i v hv hd
    obtain ⟨o, ho⟩ := Option.ne_none_iff_exists'.1 hd
    have h0 : φ (shift n i) = none := h.hr.fresh _ (hnone i o ho)
    have hg : go (renM n out.obs) (shift n i) ≠ none := by rw [go_renM, ho]; simp
    have he : (shift n i - n) / 1000 = i := by simp only [shift]; omega
    rw [hφ2]
    simp only [h0, if_neg hg, he, hv]
  have hnew' : ∀ i v o, go out.obs i = some o → φ2 (shift n i) = some v → φ1 i = some v := by
    intro i v o ho hv
    have h0 : φ (shift n i) = none := h.hr.fresh _ (hnone i o ho)
    have hg : go (renM n out.obs) (shift n i) ≠ none := by rw [go_renM, ho]; simp
    have he : (shift n i - n) / 1000 = i := by simp only [shift]; omega
    rw [hφ2] at hv
    simp only [h0, if_neg hg, he] at hv
    exact hv
  have hsplit : ∀ id o, go (renM n out.obs ++ st.hp) id = some o → go st.hp id = some o ∨ ∃ i x, id = shift n i ∧ go out.obs i = some x ∧ o = renO (shift n) x ∧ go st.hp id = none := by
    intro id o ho
    rw [go_app] at ho
    split at ho
    · rename_i o' ho'
      cases ho
      obtain ⟨i, x, rfl, hx, rfl⟩ := go_renM_some n _ _ _ ho'
      exact .inr ⟨i, x, rfl, hx, rfl, hnone i x hx⟩
    · exact .inl ho
  have hnd : ∀ {i : Nat} {x : Ob}, go out.obs i = some x → x ≠ .dead := by
    intro i x hx he
    subst he
    exact hA.2 _ (go_mem hx)
  have hok : ∀ b, okB w (okB w0 oa φ (go st.hp) w) φ1 (go out.obs) w' b → okB w0 oa φ2 (go (renM n out.obs ++ st.hp)) w' b := by
    intro b hb
    refine ⟨?_, fun id o v ho hne hv he => ?_⟩
    · rcases hb.1 with h3 | h3
      · rcases h3.1.1 with h4 | h4
        · exact .inl h4
        · exact .inr ⟨h4.1, by have := hbw.size; omega⟩
      · exact .inr ⟨by have := h.hr.below.size; omega, h3.2⟩
    · rcases hsplit id o ho with h3 | ⟨i, x, rfl, hx, rfl, _⟩
      · obtain ⟨v0, hv0⟩ := h.hr.has id o h3 hne
        obtain rfl : v0 = v := Option.some.inj ((hold _ _ hv0).symm.trans hv)
        have hlt := (h.hr.blk_lt h3 hne hv0 he).2
        rcases hb.1 with h4 | h4
        · exact h4.1.2 id o v0 h3 hne hv0 he
        · omega
      · exact hb.2 i x v hx (hnd hx) (hnew' i v x hx hv) he
  have hDD := hD _ hok
  have key := HR.step (hp' := go (renM n out.obs ++ st.hp)) (φ' := φ2) (w' := w') h.hr (fun _ => False) hbw.size (h.hr.below.trans (hbw.mono h.hr.below.size)) (fun b hb _ => hbw.block b hb) hold ?_ ?_ h.hr.has ?_ ?_
  · refine ⟨φ2, h.heap hold key, vr_ren hnew hDD hv hA.1⟩
  · intro id hid
    rw [go_app] at hid
    split at hid
    · cases hid
    · rename_i hn0
      rw [hφ2]
      simp only [h.hr.fresh id hid, hn0, if_true]
  · intro id o ho hne
    rcases hsplit id o ho with h3 | ⟨i, x, rfl, hx, rfl, hn0⟩
    · exact .inl ⟨h3, fun f => f⟩
    · refine .inr ⟨fun v b hv hb => .inl ?_, fun hc => by rw [hn0] at hc; cases hc.1⟩
      exact (h1.blk_lt hx (hnd hx) (hnew' i v x hx hv) hb).1
  · intro id o ho hc
    rcases hsplit id o ho with h3 | ⟨i, x, rfl, hx, rfl, hn0⟩
    · exact absurd ⟨h3, fun f => f⟩ hc
    · have hobj := h1.obj i x hx
      have hd : inDom out.obs i := by unfold inDom; rw [hx]; simp
      have hax := hA.2 _ (go_mem hx)
      cases x with
      | dead => exact absurd rfl (hnd hx)
      | row e sz l =>
        obtain ⟨u, cs, hu, hs, hw, hr⟩ := hobj
        refine ⟨u, cs, hnew _ _ hu hd, hs, own_lower hw h.hr.below.size, hr.1, hr.2.1, hr.2.2.1, fun i' j d x' u' a b c => ?_⟩
        have hr0 := hr.2.2.2 i' j d x' u' a b c
        have hpd := hax d (List.mem_of_getElem? a)
        -- a cell of an element that may be read
        by_cases hcell : d.cells = [d]
        · rw [hcell] at b
          cases j with
          | zero => simp at b; subst b; exact hDD _ _ hpd hr0
          | succ j => simp at b
        · cases d with
          | v z => exact absurd rfl hcell
          | list z => exact absurd rfl hcell
          | ref z => exact absurd rfl hcell
          | agg z =>
            have hw1 : w'.heap.size = w'.heap.size := rfl
            have hz : z.length = sz := hr.2.2.1 _ (List.mem_of_getElem? a)
            have hi : i' < l.length := (List.getElem?_eq_some_iff.1 a).1
            have hlt : ∀ k, k < sz → i' * sz + k < cs.length := fun k hk => by
              rw [hr.1]
              calc i' * sz + k < i' * sz + sz := by omega
                _ = (i' + 1) * sz := by rw [Nat.add_mul, Nat.one_mul]
                _ ≤ l.length * sz := Nat.mul_le_mul_right _ hi
            have hagg : Rd w' (okB w oa' φ1 (go out.obs) w') (.agg z) (.agg ((cs.drop (i' * sz)).take sz).toArray) := by
              refine .agg _ _ ?_ (fun k y' hy => ?_) (fun k d' y' hd' hy => ?_)
              · have := hlt (sz - 1) (by omega)
                simp only [List.size_toArray, List.length_take, List.length_drop, hz]
                omega
              · simp only [List.getElem?_toArray, List.getElem?_take, List.getElem?_drop] at hy
                split at hy
                · exact hr.2.1 _ (List.mem_of_getElem? hy)
                · cases hy
              · simp only [List.getElem?_toArray, List.getElem?_take, List.getElem?_drop] at hy
                split at hy
                · exact hr.2.2.2 i' k _ d' y' a hd' hy
                · cases hy
            have h5 := hDD _ _ hpd hagg
            cases h5 with
            | agg _ _ _ _ h6 =>
              have hj : j < sz := by rw [← hz]; exact (List.getElem?_eq_some_iff.1 b).1
              exact h6 j x' u' b (by simp only [List.getElem?_toArray, List.getElem?_take, List.getElem?_drop, if_pos hj]; exact c)
      | box l =>
        obtain ⟨bb, t, cs, hu, hb, hh, hl, ho1, hr⟩ := hobj
        refine ⟨bb, t, cs, hnew _ _ hu hd, by have := h.hr.below.size; omega, hh, by simpa using hl, ho1, fun j x y hx' hy => ?_⟩
        rw [List.getElem?_map] at hx'
        obtain ⟨z, hz, rfl⟩ := Option.map_eq_some_iff.1 hx'
        exact vr_ren1 hnew hDD (hr j z y hz hy) (hax z (List.mem_of_getElem? hz))
  · intro id id' o1 o2 v v' ho1 ho2 hn1 hn2 hc hne hv hv'
    rcases hsplit id o1 ho1 with h3 | ⟨i, x, rfl, hx, rfl, hn0⟩
    · exact absurd ⟨h3, fun f => f⟩ hc
    · have hv1 := hnew' i v x hx hv
      rcases hsplit id' o2 ho2 with h3 | ⟨i', x', rfl, hx', rfl, hn0'⟩
      · obtain ⟨v0, hv0⟩ := h.hr.has id' o2 h3 hn2
        obtain rfl : v0 = v' := Option.some.inj ((hold _ _ hv0).symm.trans hv')
        by_cases hb : blk v = none
        · exact .inl hb
        · refine .inr fun he => ?_
          obtain ⟨b, hb⟩ := Option.ne_none_iff_exists'.1 hb
          have e1 := (h1.blk_lt hx (hnd hx) hv1 hb).1
          have e2 := (h.hr.blk_lt h3 hn2 hv0 (he ▸ hb)).2
          omega
      · exact h1.inj i i' x x' v v' hx hx' (hnd hx) (hnd hx') (fun e => hne (by rw [e])) hv1 (hnew' i' v' x' hx' hv')
end Go.Proofs.Ytljohhinokaklaa.Am
