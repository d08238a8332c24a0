/- The abstract machine, part 6: stores, appends, copies, literals. -/
import Derived.Test.YtljohhinokaklaaAm5
set_option linter.unusedVariables false
set_option linter.unusedSimpArgs false
namespace Go.Proofs.Ytljohhinokaklaa.Am
open Go Go.RowKit

/-! ### what is owned no more -/
theorem HR.less {w0 w : World} {oa : Nat → Prop} {φ : Nat → Option Value} {hp hp' : Nat → Option Ob} (h : HR w0 oa φ hp w) (hle : ∀ id, hp' id = hp id ∨ (hp' id = some .dead ∧ hp id ≠ none)) :
    HR w0 oa φ hp' w ∧ ∀ b, okB w0 oa φ hp w b → okB w0 oa φ hp' w b := by
  have alive : ∀ id o, hp' id = some o → o ≠ .dead → hp id = some o := fun id o ho hn => by
    rcases hle id with h1 | h1
    · rw [← h1]; exact ho
    · rw [h1.1] at ho; cases ho; exact absurd rfl hn
  have hok : ∀ b, okB w0 oa φ hp w b → okB w0 oa φ hp' w b := fun b hb => ⟨hb.1, fun id o v ho hn hv => hb.2 id o v (alive id o ho hn) hn hv⟩
  refine ⟨⟨h.below, fun id o ho => ?_, fun id hid => ?_, fun id id' o o' v v' ho ho' hn hn' hne hv hv' => h.inj id id' o o' v v' (alive _ _ ho hn) (alive _ _ ho' hn') hn hn' hne hv hv'⟩, hok⟩
  · cases o with
    | dead => trivial
    | row e sz l =>
      obtain ⟨u, cs, hu, hs, hw, hr⟩ := h.obj id _ (alive id _ ho (by simp))
      exact ⟨u, cs, hu, hs, hw, hr.mono (fun _ _ => rfl) hok⟩
    | box l =>
      obtain ⟨b, t, cs, hu, hb, hh, hl, h1, hr⟩ := h.obj id _ (alive id _ ho (by simp))
      exact ⟨b, t, cs, hu, hb, hh, hl, h1, fun j x y hx hy => (hr j x y hx hy).mono (fun _ _ hv => hv) (fun _ _ => rfl) hok⟩
  · rcases hle id with h1 | h1
    · exact h.fresh id (by rw [← h1]; exact hid)
    · rw [h1.1] at hid; cases hid
def killL (hp : List (Nat × Ob)) : List Nat → List (Nat × Ob)
  | [] => hp
  | i :: r => so (killL hp r) i .dead
theorem go_killL (hp : List (Nat × Ob)) (ids : List Nat) (k : Nat) : go (killL hp ids) k = if k ∈ ids then some .dead else go hp k := by
  induction ids with
  | nil => simp [killL]
  | cons i r ih =>
    simp only [killL, go_so, ih, List.mem_cons]
    by_cases h : k = i <;> simp [h]
theorem killL_eq (hp : List (Nat × Ob)) (ids : List Nat) : killL hp ids = ids.map (fun i => (i, Ob.dead)) ++ hp := by
  induction ids with
  | nil => rfl
  | cons i r ih => simp only [killL, ih, so]; rfl
def idsV : V → List Nat
  | .sl id _ _ _ _ => [id]
  | _ => []
def idsW : V → List Nat
  | .agg l => l.flatMap idsV
  | x => idsV x
theorem toD1_ids {hp : List (Nat × Ob)} {x : V} {d : D} (h : toD1 hp x = some d) : ∀ id ∈ idsV x, go hp id ≠ none := by
  cases x with
  | sl id sz off len full =>
    obtain ⟨e, l, hg, _⟩ := toD1_sl h
    intro i hi
    simp only [idsV, List.mem_singleton] at hi
    subst hi
    rw [hg]; simp
  | _ => intro i hi; simp [idsV] at hi
theorem toDs_get {hp : List (Nat × Ob)} : ∀ {l : List V} {ds : List D}, toDs hp l = some ds → ds.length = l.length ∧ ∀ (j : Nat) (x : V), l[j]? = some x → ∃ d, ds[j]? = some d ∧ toD1 hp x = some d
  | [], ds, h => by simp only [toDs, Option.some.injEq] at h; subst h; simp
  | x :: r, ds, h => by
    simp only [toDs] at h
    split at h
    · rename_i d hd
      obtain ⟨ds', hds, rfl⟩ := Option.map_eq_some_iff.1 h
      obtain ⟨hl, hh⟩ := toDs_get hds
      refine ⟨by simp [hl], fun j x' hx => ?_⟩
      cases j with
      | zero => simp at hx; subst hx; exact ⟨d, rfl, hd⟩
      | succ j => exact hh j x' (by simpa using hx)
    · cases h
/-- What is handed out for good reads as it did, once it is owned no more. -/
theorem toD1_kill {w0 w : World} {oa : Nat → Prop} {φ : Nat → Option Value} {hp : List (Nat × Ob)} (hr : HR w0 oa φ (go hp) w) {ids : List Nat} (hids : ∀ id ∈ ids, go hp id ≠ none) {x : V} {y : Value} (hv : VR φ w (okB w0 oa φ (go hp) w) x y) {d : D} (h : toD1 hp x = some d)
    (hx : ∀ id ∈ idsV x, id ∈ ids) : Rd w (okB w0 oa φ (go (killL hp ids)) w) d y := by
  have hle : ∀ id, go (killL hp ids) id = go hp id ∨ (go (killL hp ids) id = some .dead ∧ go hp id ≠ none) := fun id => by
    rw [go_killL]
    split
    · rename_i hi; exact .inr ⟨rfl, hids id hi⟩
    · exact .inl rfl
  have hok := (hr.less hle).2
  by_cases hp1 : pu1 x = true
  · exact ((toD1_rd hr hv h).2 hp1).mono (fun _ _ => rfl) hok
  · cases x with
    | sl id sz off len full =>
      obtain ⟨e, l, hg, hle', rfl⟩ := toD1_sl h
      obtain ⟨u, cs, hu, hsz, ho, hrw⟩ := hr.obj id _ hg
      cases hv with
      | sl _ _ _ _ _ u' A c hid hc hf ha =>
        obtain rfl : u = u' := Option.some.inj (hu.symm.trans hid)
        refine row_slice hsz ho hrw _ hok ?_ hle' hc ha
        intro b hb
        have hlt := hr.blk_lt hg (by simp) hu hb
        refine ⟨.inr hlt, fun id' o' v' ho' hn' hv' he => ?_⟩
        rw [go_killL] at ho'
        split at ho'
        · cases ho'; exact hn' rfl
        · rename_i hni
          have hne : id ≠ id' := fun e => hni (e ▸ hx id (by simp [idsV]))
          rcases hr.inj id id' _ _ _ _ hg ho' (by simp) hn' hne hu hv' with h3 | h3
          · rw [hb] at h3; cases h3
          · exact h3 (by rw [hb, he])
    | d x => simp [pu1] at hp1
    | nil => simp [pu1] at hp1
    | _ => simp [toD1] at h
theorem toD_kill {w0 w : World} {oa : Nat → Prop} {φ : Nat → Option Value} {hp : List (Nat × Ob)} (hr : HR w0 oa φ (go hp) w) {ids : List Nat} (hids : ∀ id ∈ ids, go hp id ≠ none) {x : V} {y : Value} (hv : VR φ w (okB w0 oa φ (go hp) w) x y) {d : D} (h : toD hp x = some d)
    (hx : ∀ id ∈ idsW x, id ∈ ids) : Rd w (okB w0 oa φ (go (killL hp ids)) w) d y := by
  cases x with
  | agg l =>
    simp only [toD] at h
    obtain ⟨ds, hds, rfl⟩ := Option.map_eq_some_iff.1 h
    obtain ⟨cs, rfl, hl, h1, hh⟩ := vr_agg hv
    obtain ⟨hdl, hdg⟩ := toDs_get hds
    refine .agg _ _ (by rw [hl, hdl]) h1 fun j d' y' hd' hy' => ?_
    have hj : j < l.length := by rw [← hdl]; exact (List.getElem?_eq_some_iff.1 hd').1
    obtain ⟨d2, hd2, ht⟩ := hdg j l[j] (by simp)
    obtain rfl : d' = d2 := Option.some.inj (hd'.symm.trans hd2)
    exact toD1_kill hr hids (hh j l[j] y' (by simp) hy') ht (fun id hid => hx id (by simp only [idsW, List.mem_flatMap]; exact ⟨l[j], List.getElem_mem hj, hid⟩))
  | _ => exact toD1_kill hr hids hv h hx
theorem toD_ids {hp : List (Nat × Ob)} {x : V} {d : D} (h : toD hp x = some d) : ∀ id ∈ idsW x, go hp id ≠ none := by
  cases x with
  | agg l =>
    simp only [toD] at h
    obtain ⟨ds, hds, rfl⟩ := Option.map_eq_some_iff.1 h
    intro id hid
    simp only [idsW, List.mem_flatMap] at hid
    obtain ⟨z, hz, hid⟩ := hid
    obtain ⟨j, hj, hz⟩ := List.mem_iff_getElem.1 hz
    obtain ⟨d', _, ht⟩ := (toDs_get hds).2 j z (by rw [List.getElem?_eq_getElem hj, hz])
    exact toD1_ids ht id hid
  | d x => exact toD1_ids (hp := hp) (x := .d x) (d := d) h
  | nil => exact toD1_ids (hp := hp) (x := .nil) (d := d) h
  | sl a b c e f => exact toD1_ids (hp := hp) (x := .sl a b c e f) (d := d) h
  | ptr a b => exact toD1_ids (hp := hp) (x := .ptr a b) (d := d) h
  | ep a b c e => exact toD1_ids (hp := hp) (x := .ep a b c e) (d := d) h
  | tup l => exact toD1_ids (hp := hp) (x := .tup l) (d := d) h
  | junk => exact toD1_ids (hp := hp) (x := .junk) (d := d) h
/-- The state whose things ids are owned no more. -/
theorem SRp.kill {w0 : World} {oa : Nat → Prop} {φ : Nat → Option Value} {st : St} {a : Act} {w : World} (h : SRp w0 oa φ st a w) (ids : List Nat) (hids : ∀ id ∈ ids, go st.hp id ≠ none) : SRp w0 oa φ { st with hp := killL st.hp ids } a w := by
  have hle : ∀ id, go (killL st.hp ids) id = go st.hp id ∨ (go (killL st.hp ids) id = some .dead ∧ go st.hp id ≠ none) := fun id => by
    rw [go_killL]
    split
    · rename_i hi; exact .inr ⟨rfl, hids id hi⟩
    · exact .inl rfl
  obtain ⟨h1, h2⟩ := h.hr.less hle
  exact ⟨h1, h.sz, h.df, fun k => (h.tm k).mono (fun _ _ hv => hv) (fun _ _ => rfl) h2⟩

/-! ### filling -/
theorem take_set1 {α : Type} (cs : List α) (p : Nat) (x : α) (h : p < cs.length) : (cs.set p x).take (p + 1) = cs.take p ++ [x] := by
  rw [List.take_succ_eq_append_getElem (by simpa using h)]
  congr 1
  · rw [List.take_set_of_le (Nat.le_refl _)]
  · simp
theorem drop_set1 {α : Type} (cs : List α) (p q : Nat) (x : α) (h : p < q) : (cs.set p x).drop q = cs.drop q := by
  rw [List.drop_set_of_lt h]
theorem fold_set (off : Nat) : ∀ (xs : List Value) (k : Nat) (cs : List Value), off + k + xs.length ≤ cs.length →
    ((xs.zipIdx k).foldl (fun (cs : Array Value) (p : Value × Nat) => cs.setIfInBounds (off + p.2) p.1) cs.toArray) = (cs.take (off + k) ++ xs ++ cs.drop (off + k + xs.length)).toArray
  | [], k, cs, h => by simp
  | x :: r, k, cs, h => by
    simp only [List.length_cons] at h
    simp only [List.zipIdx_cons, List.foldl_cons, List.setIfInBounds_toArray]
    rw [fold_set off r (k + 1) (cs.set (off + k) x) (by simp; omega)]
    congr 1
    rw [show off + (k + 1) = off + k + 1 by omega, take_set1 cs (off + k) x (by omega), drop_set1 cs (off + k) _ x (by omega)]
    have e : off + k + 1 + r.length = off + k + (r.length + 1) := by omega
    simp only [List.append_assoc, List.singleton_append, List.cons_append, List.nil_append, List.length_cons, e]
theorem fill_one (place : Nat → Option (Nat × Nat)) (cs : List Value) (i off sz : Nat) (v : Value) (rest : List (Nat × Value)) (hp : place i = some (off, sz)) (hs : v.cells.size = sz) (hle : off + sz ≤ cs.length) :
    Instr.fill place cs.toArray ((i, v) :: rest) = Instr.fill place (cs.take off ++ v.cells.toList ++ cs.drop (off + sz)).toArray rest := by
  have h := fold_set off v.cells.toList 0 cs (by simp; omega)
  simp only [Nat.add_zero, Array.length_toList, hs] at h
  have hz : v.cells.zipIdx.foldl (fun cs (x : Value × Nat) => cs.setIfInBounds (off + x.2) x.1) cs.toArray = (v.cells.toList.zipIdx 0).foldl (fun (cs : Array Value) (p : Value × Nat) => cs.setIfInBounds (off + p.2) p.1) cs.toArray := by
    rw [← Array.foldl_toList, Array.toList_zipIdx]
  simp only [Instr.fill, hp, hs]
  rw [if_neg (by simp; omega)]
  rw [← h, ← hz]
/-- A struct's places. -/
def pl (P : Program) (t : TypeId) : Option (List (Nat × Nat)) :=
  match P.underlying t with
  | some (.struct fields) => fields.toList.mapM fun f => (P.info? f.type).map fun i => (f.offset, i.size)
  | _ => none
def fillV (places : List (Nat × Nat)) (st : St) : List (Nat × Operand) → List V → Option (List V)
  | [], l => some l
  | (i, x) :: r, l => match places[i]? with
    | some (off, sz) => match cellsV (st.ev x) with
      | some xs => if xs.length = sz ∧ off + sz ≤ l.length ∧ one1 (st.ev x) = true then fillV places st r (l.take off ++ xs ++ l.drop (off + sz)) else none
      | none => none
    | none => none
theorem fillV_ok {φ : Nat → Option Value} {w : World} {ok : Nat → Prop} {st : St} {a : Act} (hev : ∀ x, VR φ w ok (st.ev x) (a.eval x)) {places : List (Nat × Nat)} : ∀ (parts : List (Nat × Operand)) (l l' : List V) (cs : List Value), fillV places st parts l = some l' → cs.length = l.length →
    (∀ (j : Nat) (y : Value), cs[j]? = some y → y.oneCell' = true) → (∀ (j : Nat) (x : V) (y : Value), l[j]? = some x → cs[j]? = some y → VR φ w ok x y) →
    ∃ cs', Instr.fill (places.toArray[·]?) cs.toArray (parts.map fun p => (p.1, a.eval p.2)) = some cs' ∧ cs'.size = l'.length ∧ (∀ (j : Nat) (y : Value), cs'[j]? = some y → y.oneCell' = true) ∧ (∀ (j : Nat) (x : V) (y : Value), l'[j]? = some x → cs'[j]? = some y → VR φ w ok x y)
  | [], l, l', cs, h, hl, h1, hv => by
    simp only [fillV, Option.some.injEq] at h
    subst h
    exact ⟨cs.toArray, rfl, by simpa using hl, fun j y hy => h1 j y (by simpa using hy), fun j x y hx hy => hv j x y hx (by simpa using hy)⟩
  | (i, x) :: r, l, l', cs, h, hl, h1, hv => by
    simp only [fillV] at h
    split at h
    · rename_i off sz hpl
      split at h
      · rename_i xs hxs
        split at h
        · rename_i hc
          obtain ⟨hc1, hc2, hc3⟩ := hc
          obtain ⟨g1, g2, g3⟩ := cellsV_vr hxs (hev x) (one1_ok hc3)
          have hf := fill_one (places.toArray[·]?) cs i off sz (a.eval x) (r.map fun p => (p.1, a.eval p.2)) (by simpa using hpl) (by rw [g1, hc1]) (by omega)
          rw [List.map_cons, hf]
          refine fillV_ok hev r _ l' _ h (by simp [hl, g1]) (fun j y hy => ?_) (fun j z y hz hy => ?_)
          · rw [List.append_assoc] at hy
            by_cases hj : j < off
            · rw [List.getElem?_append_left (by simp; omega)] at hy
              rw [List.getElem?_take, if_pos hj] at hy
              exact h1 j y hy
            · rw [List.getElem?_append_right (by simp; omega)] at hy
              simp only [List.length_take, show min off cs.length = off by omega] at hy
              by_cases hj2 : j - off < sz
              · rw [List.getElem?_append_left (by simp; omega)] at hy
                exact g2 _ y (by simpa using hy)
              · rw [List.getElem?_append_right (by simp; omega)] at hy
                rw [List.getElem?_drop] at hy
                exact h1 _ y hy
          · rw [List.append_assoc] at hy hz
            by_cases hj : j < off
            · rw [List.getElem?_append_left (by simp; omega)] at hy hz
              rw [List.getElem?_take, if_pos hj] at hy hz
              exact hv j z y hz hy
            · rw [List.getElem?_append_right (by simp; omega)] at hy hz
              simp only [List.length_take, show min off cs.length = off by omega, show min off l.length = off by omega] at hy hz
              by_cases hj2 : j - off < sz
              · rw [List.getElem?_append_left (by simp; omega)] at hy
                rw [List.getElem?_append_left (by omega)] at hz
                exact g3 _ z y hz (by simpa using hy)
              · rw [List.getElem?_append_right (by simp; omega)] at hy
                rw [List.getElem?_append_right (by omega)] at hz
                simp only [Array.length_toList, g1] at hy
                rw [List.getElem?_drop] at hy hz
                rw [hc1] at hy hz
                exact hv _ z y hz hy
        · cases h
      · cases h
    · cases h
def e_build (P : Program) (t : TypeId) (parts : Array (Nat × Operand)) (o : Oper) (st : St) (K : V → List (Nat × Ob) → Prop) : Prop :=
  dOk o.dst st.nt ∧ match pl P t with
  | some places => match zc P t with
    | some z => z.all (·.oneCell') = true ∧ match fillV places st parts.toList (z.map cV0) with
      | some l => K (.agg l) []
      | none => False
    | none => False
  | none => False
theorem s_build {P : Program} {t : TypeId} {parts : Array (Nat × Operand)} {o : Oper} {st : St} {K : St → Prop} (ho : o.op = .build t parts) (h : e_build P t parts o st fun x ups => K (st.upd o.dst x ups)) : Does P o st K := by
  obtain ⟨hd, h⟩ := h
  split at h
  · rename_i places hpl
    split at h
    · rename_i z hz
      obtain ⟨h1, h⟩ := h
      split at h
      · rename_i l hl
        obtain ⟨inf, zv, hinf, hzv, rfl⟩ := zc_open hz
        refine does_val _ hd (fun w0 oa φ a w hs => ?_) h
        obtain ⟨cs', hf, hs1, hs2, hs3⟩ := fillV_ok (fun x => hs.ev x) parts.toList _ l zv.cells.toList hl (by simp) (fun j y hy => List.all_eq_true.1 h1 y (List.mem_of_getElem? hy))
          (fun j x y hx hy => by
            have : (zv.cells.toList.map cV0)[j]? = some (cV0 y) := by simp [hy]
            rw [this] at hx; cases hx; exact vr_c0 y)
        have hb : P.built t (parts.map fun (i, x) => (i, a.eval x)).toList = some cs' := by
          unfold pl at hpl
          split at hpl
          · rename_i fields hu
            simp only [Program.built, hinf, hu, hzv, hpl]
            simpa using hf
          · cases hpl
        exact ⟨.agg cs', by simp [execOp, ho, run_build w t _ cs' hb], .agg _ _ hs1 hs2 hs3⟩
      · exact h.elim
    · exact h.elim
  · exact h.elim
end Go.Proofs.Ytljohhinokaklaa.Am
