/- The abstract machine, part 7: slices written out, stores, appends, copies. -/
import Derived.Test.YtljohhinokaklaaAm6
set_option linter.unusedVariables false
set_option linter.unusedSimpArgs false
namespace Go.Proofs.Ytljohhinokaklaa.Am
open Go Go.RowKit

/-! ### slices written out -/
theorem fill_seq (sz : Nat) (hsz : 0 < sz) : ∀ (vs : List Value) (k : Nat) (cs : List Value), (∀ v ∈ vs, v.cells.size = sz) → cs.length = (k + vs.length) * sz →
    Instr.fill (fun i => some (i * sz, sz)) cs.toArray ((vs.zipIdx k).map fun p => (p.2, p.1)) = some (cs.take (k * sz) ++ vs.flatMap (·.cells.toList)).toArray
  | [], k, cs, _, hl => by
    simp only [List.zipIdx_nil, List.map_nil, Instr.fill, List.flatMap_nil, List.append_nil]
    rw [List.take_of_length_le (by rw [hl]; simp)]
  | v :: r, k, cs, hv, hl => by
    have hv0 : v.cells.size = sz := hv v (by simp)
    have hle : k * sz + sz ≤ cs.length := by
      rw [hl]
      calc k * sz + sz = (k + 1) * sz := by rw [Nat.add_mul, Nat.one_mul]
        _ ≤ (k + (v :: r).length) * sz := Nat.mul_le_mul_right _ (by simp only [List.length_cons]; omega)
    simp only [List.zipIdx_cons, List.map_cons]
    rw [fill_one (fun i => some (i * sz, sz)) cs k (k * sz) sz v _ rfl hv0 hle]
    have hlen : (cs.take (k * sz) ++ v.cells.toList).length = (k + 1) * sz := by
      simp only [List.length_append, List.length_take, Array.length_toList, hv0]
      rw [Nat.min_eq_left (by omega), Nat.add_mul, Nat.one_mul]
    rw [fill_seq sz hsz r (k + 1) _ (fun u hu => hv u (by simp [hu])) (by
      rw [List.length_append, hlen, List.length_drop, hl]
      have : (k + (v :: r).length) * sz = k * sz + sz + r.length * sz := by simp only [List.length_cons, Nat.add_mul, Nat.one_mul]; omega
      rw [this]
      simp only [Nat.add_mul, Nat.one_mul]
      omega)]
    congr 2
    rw [List.take_append_of_le_length (by rw [hlen]; exact Nat.le_refl _), List.take_of_length_le (by rw [hlen]; exact Nat.le_refl _)]
    simp [List.append_assoc]
def toDL (hp : List (Nat × Ob)) (st : St) : List (Nat × Operand) → Nat → Option (List D × List Nat)
  | [], _ => some ([], [])
  | (i, x) :: r, k => if i = k ∧ one1 (st.ev x) = true then match toD hp (st.ev x) with
    | some d => (toDL hp st r (k + 1)).map fun p => (d :: p.1, idsW (st.ev x) ++ p.2)
    | none => none
    else none
theorem toDL_ok {hp : List (Nat × Ob)} {st : St} : ∀ {parts : List (Nat × Operand)} {k : Nat} {ds : List D} {ids : List Nat}, toDL hp st parts k = some (ds, ids) → ds.length = parts.length ∧ (∀ f : Operand → Value, parts.map (fun p => (p.1, f p.2)) = ((parts.map fun p => f p.2).zipIdx k).map fun p => (p.2, p.1)) ∧
    (∀ id ∈ ids, go hp id ≠ none) ∧ ∀ (j : Nat) (p : Nat × Operand), parts[j]? = some p → one1 (st.ev p.2) = true ∧ (∀ id ∈ idsW (st.ev p.2), id ∈ ids) ∧ ∃ d, ds[j]? = some d ∧ toD hp (st.ev p.2) = some d
  | [], k, ds, ids, h => by simp only [toDL, Option.some.injEq, Prod.mk.injEq] at h; obtain ⟨rfl, rfl⟩ := h; simp
  | (i, x) :: r, k, ds, ids, h => by
    simp only [toDL] at h
    split at h
    · rename_i hc
      obtain ⟨rfl, h1⟩ := hc
      split at h
      · rename_i d hd
        obtain ⟨⟨ds', ids'⟩, hr, he⟩ := Option.map_eq_some_iff.1 h
        simp only [Prod.mk.injEq] at he
        obtain ⟨rfl, rfl⟩ := he
        obtain ⟨g1, g2, g3, g4⟩ := toDL_ok hr
        refine ⟨by simp [g1], fun f => ?_, fun id hid => ?_, fun j p hp => ?_⟩
        · simp only [List.map_cons, List.zipIdx_cons]
          rw [g2 f]
        · rcases List.mem_append.1 hid with h2 | h2
          · exact toD_ids hd id h2
          · exact g3 id h2
        · cases j with
          | zero =>
            simp at hp
            subst hp
            exact ⟨h1, fun id hid => List.mem_append.2 (.inl hid), d, rfl, hd⟩
          | succ j =>
            obtain ⟨q1, q2, d', q3, q4⟩ := g4 j p (by simpa using hp)
            exact ⟨q1, fun id hid => List.mem_append.2 (.inr (q2 id hid)), d', by simpa using q3, q4⟩
      · cases h
    · cases h
theorem rd_cells {w : World} {ok : Nat → Prop} {d : D} {y : Value} (h : Rd w ok d y) (h1 : ∀ z, d = .v z → z.oneCell' = true) : y.cells.size = d.cells.length ∧ (∀ u ∈ y.cells.toList, u.oneCell' = true) ∧
    ∀ (j : Nat) (x : D) (u : Value), d.cells[j]? = some x → y.cells[j]? = some u → Rd w ok x u := by
  have one : ∀ (v : Value), v.oneCell' = true → v.cells = #[v] := by intro v hv; cases v <;> simp [Value.oneCell'] at hv <;> rfl
  have fin : ∀ (d : D) (v : Value), d.cells = [d] → v.oneCell' = true → Rd w ok d v → v.cells.size = d.cells.length ∧ (∀ u ∈ v.cells.toList, u.oneCell' = true) ∧ ∀ (j : Nat) (x : D) (u : Value), d.cells[j]? = some x → v.cells[j]? = some u → Rd w ok x u := by
    intro d v hd h1 hv
    rw [one v h1, hd]
    refine ⟨rfl, fun u hu => by simp at hu; subst hu; exact h1, fun j z u hz hu => ?_⟩
    cases j with
    | zero => simp at hu hz; subst hu; subst hz; exact hv
    | succ j => simp at hu
  have h2 := h
  cases h with
  | v x => exact fin _ _ rfl (h1 _ rfl) h2
  | agg l cs hl ho hh => exact ⟨hl, fun u hu => by obtain ⟨j, hj, rfl⟩ := List.mem_iff_getElem.1 hu; exact ho j _ (by simp [Value.cells]), hh⟩
  | nil => exact fin _ _ rfl rfl h2
  | list => exact fin _ _ rfl rfl h2
  | ref => exact fin _ _ rfl rfl h2
theorem flat_get {sz : Nat} (hsz : 0 < sz) : ∀ {vs : List Value}, (∀ v ∈ vs, v.cells.size = sz) → (vs.flatMap (·.cells.toList)).length = vs.length * sz ∧
    ∀ (i j : Nat) (v : Value), vs[i]? = some v → j < sz → (vs.flatMap (·.cells.toList))[i * sz + j]? = v.cells[j]?
  | [], _ => by simp
  | v :: r, hv => by
    obtain ⟨h1, h2⟩ := flat_get hsz (vs := r) fun u hu => hv u (by simp [hu])
    have hv0 : v.cells.size = sz := hv v (by simp)
    refine ⟨by simp only [List.flatMap_cons, List.length_append, Array.length_toList, hv0, h1, List.length_cons, Nat.add_mul, Nat.one_mul]; omega, fun i j u hu hj => ?_⟩
    simp only [List.flatMap_cons]
    cases i with
    | zero =>
      simp at hu
      subst hu
      rw [List.getElem?_append_left (by simp; omega)]
      simp
    | succ i =>
      have hu' : r[i]? = some u := by simpa using hu
      rw [List.getElem?_append_right (by simp only [Array.length_toList, hv0, Nat.add_mul, Nat.one_mul]; omega)]
      have : (i + 1) * sz + j - v.cells.toList.length = i * sz + j := by simp only [Array.length_toList, hv0, Nat.add_mul, Nat.one_mul]; omega
      rw [this]
      exact h2 i j u hu' hj
def one0 : D → Bool
  | .v z => z.oneCell'
  | _ => true
def e_lit (P : Program) (t : TypeId) (len : Nat) (parts : Array (Nat × Operand)) (o : Oper) (st : St) (K : V → List (Nat × Ob) → Prop) : Prop :=
  dOk o.dst st.nt ∧ match o.dst with
  | some n => go st.hp n = none ∧ match el P t with
    | some (e, sz, _) => match zc P e with
      | some z => match toDL st.hp st parts.toList 0 with
        | some (ds, ids) => parts.size = len ∧ 0 < sz ∧ z.length = sz ∧ len * sz ≤ 16777216 ∧ (∀ d ∈ ds, d.cells.length = sz ∧ one0 d = true) ∧ K (.sl n sz 0 ds.length true) ((n, .row e sz ds) :: ids.map fun i => (i, .dead))
        | none => False
      | none => False
    | none => False
  | none => False
theorem s_lit {P : Program} {t : TypeId} {len : Nat} {parts : Array (Nat × Operand)} {o : Oper} {st : St} {K : St → Prop} (ho : o.op = .buildSlice t len parts) (h : e_lit P t len parts o st fun x ups => K (st.upd o.dst x ups)) : Does P o st K := by
  obtain ⟨hd, h⟩ := h
  split at h
  · rename_i n hdst
    obtain ⟨hn, h⟩ := h
    split at h
    · rename_i e sz by' he
      split at h
      · rename_i z hz
        split at h
        · rename_i ds ids hds
          obtain ⟨rfl, hsz, hzl, hlim, hcell, h⟩ := h
          obtain ⟨inf, hu, hinf, rfl, _⟩ := el_open he
          obtain ⟨inf', zv, hinf', hzv, rfl⟩ := zc_open hz
          obtain rfl : inf = inf' := Option.some.inj (hinf.symm.trans hinf')
          obtain ⟨g1, g2, g3, g4⟩ := toDL_ok hds
          refine does_run fun w0 oa φ a w hs => ?_
          have hs1 := hs.kill ids g3
          have hn1 : go (killL st.hp ids) n = none := by
            rw [go_killL, if_neg (fun hi => g3 n hi hn)]; exact hn
          obtain ⟨vs, hvs⟩ : ∃ vs, vs = parts.toList.map fun p => a.eval p.2 := ⟨_, rfl⟩
          have hvl : vs.length = parts.size := by rw [hvs]; simp
          have rds : ∀ (i : Nat) (v : Value) (d : D), vs[i]? = some v → ds[i]? = some d → Rd w (okB w0 oa φ (go (killL st.hp ids)) w) d v := by
            intro i v d hv hd'
            rw [hvs, List.getElem?_map] at hv
            obtain ⟨p, hp, rfl⟩ := Option.map_eq_some_iff.1 hv
            obtain ⟨_, q2, d', q3, q4⟩ := g4 i p hp
            obtain rfl : d = d' := Option.some.inj (hd'.symm.trans q3)
            exact toD_kill hs.hr g3 (hs.ev p.2) q4 q2
          have hdi : ∀ i, i < vs.length → ∃ d, ds[i]? = some d ∧ d.cells.length = inf.size ∧ one0 d = true := by
            intro i hi
            have : i < ds.length := by rw [g1]; simpa [hvl] using hi
            exact ⟨ds[i], by simp, hcell _ (List.getElem_mem this)⟩
          have hcs : ∀ v ∈ vs, v.cells.size = inf.size := by
            intro v hv
            obtain ⟨i, hi, rfl⟩ := List.mem_iff_getElem.1 hv
            obtain ⟨d, hd', hc, ho1⟩ := hdi i hi
            rw [(rd_cells (rds i _ d (by simp) hd') (fun z hz => by subst hz; exact ho1)).1, hc]
          obtain ⟨f1, f2⟩ := flat_get hsz hcs
          have hfill : Instr.fill (fun i => some (i * inf.size, inf.size)) ((Array.range (parts.size * inf.size)).map (zv.cells[· % zv.cells.size]!)) (parts.map fun (i, x) => (i, a.eval x)).toList = some (vs.flatMap (·.cells.toList)).toArray := by
            have hm : (parts.map fun (i, x) => (i, a.eval x)).toList = (vs.zipIdx 0).map fun p => (p.2, p.1) := by
              rw [hvs, ← g2 a.eval]
              simp
            rw [hm]
            have := fill_seq inf.size hsz vs 0 ((Array.range (parts.size * inf.size)).map (zv.cells[· % zv.cells.size]!)).toList hcs (by simp [hvl])
            rw [Array.toArray_toList, Nat.zero_mul, List.take_zero, List.nil_append] at this
            exact this
          have hrun : (execOp a.eval o).run P w = .ok (.value (.slice (some ⟨w.heap.size, 0, none⟩) parts.size parts.size)) (w.alloc (.cells (vs.flatMap (·.cells.toList)).toArray e)) := by
            have h24 : ¬ (16777216 < parts.size * inf.size) := by omega
            by_cases h0 : parts.size * inf.size = 0
            · have hp0 : parts.size = 0 := by
                rcases Nat.mul_eq_zero.1 h0 with h2 | h2
                · exact h2
                · omega
              have hp1 : parts = #[] := Array.eq_empty_of_size_eq_zero hp0
              subst hp1
              simp at hvs
              subst hvs
              simp [execOp, ho, Instr.buildSlice, run_underlying hu, run_size hinf, Instr.fill, newRow, Array.range_zero']
            · simp [execOp, ho, Instr.buildSlice, run_underlying hu, run_size hinf, h24, h0, zeroValue, typeInfo, hinf, hzv, newRow]
              simp at hfill
              rw [hfill]
              simp
          have hown : (w.alloc (.cells (vs.flatMap (·.cells.toList)).toArray e)).ownsRow w.heap.size e inf.size (.slice (some ⟨w.heap.size, 0, none⟩) parts.size parts.size) ds.length (vs.flatMap (·.cells.toList)) := by
            have hdl : ds.length = parts.size := by rw [g1]; simp
            rw [hdl]
            have := World.ownsRow_lit (size := inf.size) (e := e) (base := w.heap.size) w (vs.flatMap (·.cells.toList)).toArray parts.size (Nat.le_refl _) (by
              have : parts.size ≤ parts.size * inf.size := Nat.le_mul_of_pos_right _ hsz
              simp only [maxLen]; omega) (by simp only [List.size_toArray, f1, hvl])
            simpa using this
          have hrw : Rw (w.alloc (.cells (vs.flatMap (·.cells.toList)).toArray e)) (okB w0 oa φ (go (killL st.hp ids)) w) inf.size ds (vs.flatMap (·.cells.toList)) := by
            refine ⟨by rw [f1, hvl, g1]; simp, fun u hu => ?_, fun d hd' => (hcell d hd').1, fun i j d x u hd' hx hu' => ?_⟩
            · obtain ⟨v, hv, hu⟩ := List.mem_flatMap.1 hu
              obtain ⟨i, hi, rfl⟩ := List.mem_iff_getElem.1 hv
              obtain ⟨d, hd', hc, ho1⟩ := hdi i hi
              exact (rd_cells (rds i _ d (by simp) hd') (fun z hz => by subst hz; exact ho1)).2.1 u hu
            · have hi : i < vs.length := by
                have := (List.getElem?_eq_some_iff.1 hd').1
                rw [g1] at this
                simpa [hvl] using this
              have hj : j < inf.size := by rw [← (hcell d (List.mem_of_getElem? hd')).1]; exact (List.getElem?_eq_some_iff.1 hx).1
              have hvi : vs[i]? = some vs[i] := by simp
              rw [f2 i j vs[i] hvi hj] at hu'
              exact ((rd_cells (rds i _ d hvi hd') (fun z hz => by subst hz; exact (hcell _ (List.mem_of_getElem? hd')).2)).2.2 j x u hx hu').mono (fun b hb => heap_alloc_old w _ b (okB_lt hs1.hr.below.size hb)) (fun _ hb => hb)
          obtain ⟨φ', hs', hv⟩ := hs1.newrow n hn1 e inf.size ds _ _ hsz ((Below.refl _ _).alloc (Nat.le_refl _) _) hown hrw
          have hkl : (n, Ob.row e inf.size ds) :: ids.map (fun i => (i, Ob.dead)) ++ st.hp = so (killL st.hp ids) n (.row e inf.size ds) := by
            rw [killL_eq]; rfl
          refine ⟨_, _, _, hrun, h, ?_⟩
          unfold St.upd
          rw [hkl]
          exact (hs'.put o.dst hd hv).sr
        · exact h.elim
      · exact h.elim
    · exact h.elim
  · exact h.elim
end Go.Proofs.Ytljohhinokaklaa.Am
