/- The abstract machine, part 8: stores, appends, copies. -/
import Derived.Test.YtljohhinokaklaaAm7
set_option linter.unusedVariables false
set_option linter.unusedSimpArgs false
namespace Go.Proofs.Ytljohhinokaklaa.Am
open Go Go.RowKit

/-- One thing's memory is written, in place. -/
theorem HR.touch {w0 w w' : World} {oa : Nat → Prop} {φ : Nat → Option Value} {hp : List (Nat × Ob)} (h : HR w0 oa φ (go hp) w) {id : Nat} {ob ob' : Ob} (hg : go hp id = some ob) (hn : ob ≠ .dead) (hn' : ob' ≠ .dead) {u : Value} {b0 : Nat} (hu : φ id = some u) (hb0 : blk u = some b0)
    (hsz : w'.heap.size = w.heap.size) (hbelow : Below w0.heap.size w0 w') (hkeep : ∀ b, b ≠ b0 → w'.heap[b]? = w.heap[b]?)
    (hobj : ∀ ok : Nat → Prop, (∀ b, okB w0 oa φ (go hp) w b → ok b ∧ b ≠ b0) → OR φ w' ok w0.heap.size id ob') :
    HR w0 oa φ (go (so hp id ob')) w' ∧ (∀ b, okB w0 oa φ (go hp) w b → okB w0 oa φ (go (so hp id ob')) w' b ∧ w'.heap[b]? = w.heap[b]?) := by
  have hok2 : ∀ b, okB w0 oa φ (go hp) w b → okB w0 oa φ (go (so hp id ob')) w' b ∧ b ≠ b0 := by
    intro b hb
    refine ⟨⟨?_, ?_⟩, fun e => hb.2 id ob u hg hn hu (by rw [hb0, e])⟩
    · rcases hb.1 with h1 | h1
      · exact .inl h1
      · exact .inr ⟨h1.1, by omega⟩
    · intro id' o' v ho' hne hv he
      rw [go_so] at ho'
      split at ho'
      · rename_i e
        subst e
        exact hb.2 _ ob v hg hn hv he
      · exact hb.2 _ o' v ho' hne hv he
  refine HR.step (hp' := go (so hp id ob')) (φ' := φ) (w' := w') h (fun i => i = id) (by omega) hbelow (fun b _ hb => hkeep b fun e => hb id ob u rfl hg hn hu (by rw [hb0, e])) (fun _ _ hv => hv) ?_ ?_ h.has ?_ ?_
  · intro i hi
    rw [go_so] at hi
    split at hi
    · cases hi
    · exact h.fresh i hi
  · intro i o' ho' hne
    rw [go_so] at ho'
    split at ho'
    · rename_i e
      subst e
      exact .inr ⟨fun v b hv hb => .inr ⟨_, ob, u, rfl, hg, hn, hu, by rw [← hb]; congr 1; exact Option.some.inj (hu.symm.trans hv)⟩, fun hc => hc.2 rfl⟩
    · rename_i e
      exact .inl ⟨ho', e⟩
  · intro i o' ho' hc
    rw [go_so] at ho'
    split at ho'
    · rename_i e
      subst e
      cases ho'
      exact hobj _ hok2
    · rename_i e
      exact absurd ⟨ho', e⟩ hc
  · intro i i' o1 o2 v v' ho1 ho2 hn1 hn2 hc hne hv hv'
    rw [go_so] at ho1 ho2
    split at ho1
    · rename_i e
      subst e
      rw [if_neg (Ne.symm hne)] at ho2
      exact h.inj _ i' ob o2 v v' hg ho2 hn hn2 hne hv hv'
    · rename_i e
      exact absurd ⟨ho1, e⟩ hc
theorem below_setRow {B : Nat} {a w : World} (h : Below B a w) (g : Nat) (hg : B ≤ g) (cs : Array Value) : Below B a (w.setRow g cs) :=
  h.trans ⟨rfl, rfl, rfl, by simp, fun k hk => setRow_other w g k cs (by omega)⟩
theorem run_storeVar_at {P : Program} {t : TypeId} {inf : TypeInfo} (hinf : P.info? t = some inf) (w : World) (g off : Nat) (ty : TypeId) (cur : Array Value) (v : Value) (hg : w.heap[g]? = some (.cells cur ty (0, 0))) (hs : v.cells.size = inf.size) (hle : off + inf.size ≤ cur.size)
    (h1 : ∀ u ∈ v.cells.toList, u.oneCell' = true) : (storeVar t ⟨g, off, none⟩ v).run P w = .ok () (w.setRow g (cur.toList.take off ++ v.cells.toList ++ cur.toList.drop (off + inf.size)).toArray) := by
  have := run_storeCells_at P g off ty v.cells.toList 0 cur w hg (by simp; omega) h1
  simp only [Nat.add_zero, Array.length_toList, hs] at this
  simp [storeVar, run_size hinf, hs, this]
theorem mid_get {α : Type} (cs xs : List α) (off : Nat) (hle : off + xs.length ≤ cs.length) (j : Nat) : (cs.take off ++ xs ++ cs.drop (off + xs.length))[j]? = if off ≤ j ∧ j < off + xs.length then xs[j - off]? else cs[j]? := by
  rw [List.append_assoc]
  by_cases h1 : j < off
  · rw [List.getElem?_append_left (by simp; omega), List.getElem?_take, if_pos h1, if_neg (by omega)]
  · rw [List.getElem?_append_right (by simp; omega)]
    simp only [List.length_take, show min off cs.length = off by omega]
    by_cases h2 : j < off + xs.length
    · rw [List.getElem?_append_left (by omega), if_pos (by omega)]
    · rw [List.getElem?_append_right (by omega), if_neg (by omega), List.getElem?_drop]
      congr 1
      omega
theorem mid_len {α : Type} (cs xs : List α) (off : Nat) (hle : off + xs.length ≤ cs.length) : (cs.take off ++ xs ++ cs.drop (off + xs.length)).length = cs.length := by
  simp; omega

/-! ### stores -/
def newD (b : Bool) (sz c : Nat) (old : D) (ds : List D) : Option D :=
  if c = 0 ∧ ds.length = sz then (if b = true then some (.agg ds) else ds.head?) else some (.agg (old.cells.take c ++ ds ++ old.cells.drop (c + ds.length)))
def e_store (P : Program) (t : TypeId) (x y : Operand) (o : Oper) (st : St) (K : V → List (Nat × Ob) → Prop) : Prop :=
  dOk o.dst st.nt ∧ one1 (st.ev y) = true ∧ match tk P t with
  | some (b, n) => match cellsV (st.ev y) with
    | some ys => ys.length = n ∧ match st.ev x with
      | .ptr id off => match go st.hp id with
        | some (.box l) => off + n ≤ l.length ∧ K (.d (.v undef)) [(id, (.box (l.take off ++ ys ++ l.drop (off + n))))]
        | _ => False
      | .ep id sz i c => match go st.hp id with
        | some (.row e sz' l) => sz = sz' ∧ i < l.length ∧ c + n ≤ sz ∧ (ys.all pu1 = true) ∧ match toDs [] ys with
          | some ds => match newD b sz c (nth l i) ds with
            | some d => d.cells = (nth l i).cells.take c ++ ds ++ (nth l i).cells.drop (c + n) ∧ K (.d (.v undef)) [(id, (.row e sz' (l.set i d)))]
            | none => False
          | none => False
        | _ => False
      | _ => False
    | none => False
  | none => False
theorem toD1_pure {hp : List (Nat × Ob)} {x : V} {d : D} (h : toD1 [] x = some d) (hp1 : pu1 x = true) : toD1 hp x = some d := by
  cases x with
  | d x =>
    cases x with
    | agg l => simp [toD1] at h
    | _ => simpa [toD1] using h
  | nil => simpa [toD1] using h
  | _ => simp [pu1] at hp1
theorem s_store {P : Program} {t : TypeId} {x y : Operand} {o : Oper} {st : St} {K : St → Prop} (ho : o.op = .store t x y) (h : e_store P t x y o st fun x ups => K (st.upd o.dst x ups)) : Does P o st K := by
  obtain ⟨hd, hone, h⟩ := h
  split at h
  · rename_i b n ht
    split at h
    · rename_i ys hys
      obtain ⟨hyn, h⟩ := h
      obtain ⟨dsc, inf, hdsc, hinf, _, hsz⟩ := tk_open ht
      split at h
      · rename_i id off hx
        split at h
        · rename_i l hg
          obtain ⟨hle, h⟩ := h
          refine does_skip fun w0 oa φ a w hs => ?_
          have e1 := hs.ev x; rw [hx] at e1
          obtain ⟨bb, hb, e1⟩ := vr_ptr e1
          obtain ⟨c1, c2, c3⟩ := cellsV_vr hys (hs.ev y) (one1_ok hone)
          obtain ⟨bb', ty, cs, hu, hbase, hh, hl, h1, hv⟩ := hs.hr.obj id _ hg
          obtain rfl : bb = bb' := by have := hb.symm.trans hu; simpa using this
          have hv1 : ∀ u ∈ (a.eval y).cells.toList, u.oneCell' = true := fun u hu => by
            obtain ⟨j, hj, rfl⟩ := List.mem_iff_getElem.1 hu
            exact c2 j _ (by simp at hj ⊢)
          have hrun := run_storeVar_at hinf w bb off ty cs (a.eval y) hh (by rw [c1, hyn, hsz]) (by omega) hv1
          have hvl : (a.eval y).cells.toList.length = n := by rw [Array.length_toList, c1, hyn]
          rw [hsz] at hrun
          have key := hs.hr.touch hg (by simp) (ob' := .box (l.take off ++ ys ++ l.drop (off + n))) (by simp) hu rfl (w' := w.setRow bb (cs.toList.take off ++ (a.eval y).cells.toList ++ cs.toList.drop (off + n)).toArray) (by simp) (below_setRow hs.hr.below bb hbase _) (fun k hk => setRow_other w bb k _ hk) ?_
          · have hs' := hs.heap (fun _ _ hv => hv) key
            refine ⟨_, _, ?_, h, (hs'.put o.dst hd (.d _ _ (.v _))).sr⟩
            simp [execOp, ho, e1, Instr.storeAt, Instr.sureAddr, hrun]
          · intro ok hok
            refine ⟨bb, ty, _, hu, hbase, setRow_heap w bb cs _ ty _ hh, ?_, ?_, ?_⟩
            · have e1 := mid_len cs.toList (a.eval y).cells.toList off (by rw [hvl]; simpa using (by omega : off + n ≤ cs.size))
              have e2 := mid_len l ys off (by omega)
              rw [hvl] at e1
              rw [hyn] at e2
              simp only [List.size_toArray]
              rw [e1, e2]; simpa using hl
            · intro j z hz
              have e1 := mid_get cs.toList (a.eval y).cells.toList off (by rw [hvl]; simpa using (by omega : off + n ≤ cs.size)) j
              rw [hvl] at e1
              simp only [List.getElem?_toArray] at hz
              rw [e1] at hz
              split at hz
              · exact c2 _ z (by simpa using hz)
              · exact h1 j z (by simpa using hz)
            · intro j q z hq hz
              have e1 := mid_get cs.toList (a.eval y).cells.toList off (by rw [hvl]; simpa using (by omega : off + n ≤ cs.size)) j
              have e2 := mid_get l ys off (by omega) j
              rw [hvl] at e1
              rw [hyn] at e2
              simp only [List.getElem?_toArray] at hz
              rw [e1] at hz
              rw [e2] at hq
              have mono : ∀ {q : V} {z : Value}, VR φ w (okB w0 oa φ (go st.hp) w) q z → VR φ (w.setRow bb (cs.toList.take off ++ (a.eval y).cells.toList ++ cs.toList.drop (off + n)).toArray) ok q z := fun hvr =>
                hvr.mono (fun _ _ hv => hv) (fun k hk => setRow_other w bb k _ (hok k hk).2) (fun k hk => (hok k hk).1)
              split at hz
              · rename_i hc
                rw [if_pos hc] at hq
                exact mono (c3 _ q z hq (by simpa using hz))
              · rename_i hc
                rw [if_neg hc] at hq
                exact mono (hv j q z hq (by simpa using hz))
        · exact h.elim
      · rename_i id sz i c hx
        split at h
        · rename_i e sz' l hg
          obtain ⟨rfl, hi, hcn, hpu, h⟩ := h
          split at h
          · rename_i ds hds
            split at h
            · rename_i d hd'
              obtain ⟨hcells, h⟩ := h
              refine does_skip fun w0 oa φ a w hs => ?_
              have e1 := hs.ev x; rw [hx] at e1
              obtain ⟨bb, m, cap, hb, e1⟩ := vr_ep e1
              obtain ⟨c1, c2, c3⟩ := cellsV_vr hys (hs.ev y) (one1_ok hone)
              obtain ⟨u, cs, hu, hszp, how, hrw⟩ := hs.hr.obj id _ hg
              obtain rfl : u = _ := Option.some.inj (hu.symm.trans hb)
              obtain ⟨hdl, hdg⟩ := toDs_get hds
              rcases how.2 with ⟨h2, _⟩ | ⟨g, cap', cur, h2, hbase, hh, hnc, hcm, hcs, htake⟩
              · simp at h2
              simp only [Value.slice.injEq, Option.some.injEq, Addr.mk.injEq, and_true, true_and] at h2
              obtain ⟨rfl, rfl, rfl⟩ := h2
              have hv1 : ∀ u ∈ (a.eval y).cells.toList, u.oneCell' = true := fun u hu => by
                obtain ⟨j, hj, rfl⟩ := List.mem_iff_getElem.1 hu
                exact c2 j _ (by simp at hj ⊢)
              have hvl : (a.eval y).cells.toList.length = n := by rw [Array.length_toList, c1, hyn]
              have hil : i * sz + c + n ≤ l.length * sz := by
                calc i * sz + c + n ≤ i * sz + sz := by omega
                  _ = (i + 1) * sz := by rw [Nat.add_mul, Nat.one_mul]
                  _ ≤ l.length * sz := Nat.mul_le_mul_right _ hi
              have hlc : l.length * sz ≤ cur.size := by rw [hcs]; exact Nat.mul_le_mul_right _ hnc
              have hrun := run_storeVar_at hinf w bb (i * sz + c) e cur (a.eval y) hh (by rw [c1, hyn, hsz]) (by omega) hv1
              rw [hsz] at hrun
              have hcl : (nth l i).cells.length = sz := hrw.2.2.1 _ (List.mem_of_getElem? (nth_get hi))
              have hdc : d.cells.length = sz := by
                have := mid_len (nth l i).cells ds c (by rw [hcl, hdl, hyn]; exact hcn)
                rw [hdl, hyn] at this
                rw [hcells, this, hcl]
              have key := hs.hr.touch hg (by simp) (ob' := .row e sz (l.set i d)) (by simp) hu rfl (w' := w.setRow bb (cur.toList.take (i * sz + c) ++ (a.eval y).cells.toList ++ cur.toList.drop (i * sz + c + n)).toArray) (by simp) (below_setRow hs.hr.below bb hbase _) (fun k hk => setRow_other w bb k _ hk) ?_
              · have hs' := hs.heap (fun _ _ hv => hv) key
                refine ⟨_, _, ?_, h, (hs'.put o.dst hd (.d _ _ (.v _))).sr⟩
                simp [execOp, ho, e1, Instr.storeAt, Instr.sureAddr, hrun]
              · intro ok hok
                have hcur := mid_len cur.toList (a.eval y).cells.toList (i * sz + c) (by rw [hvl]; simp; omega)
                have hget := mid_get cur.toList (a.eval y).cells.toList (i * sz + c) (by rw [hvl]; simp; omega)
                rw [hvl] at hcur hget
                refine ⟨_, (cur.toList.take (i * sz + c) ++ (a.eval y).cells.toList ++ cur.toList.drop (i * sz + c + n)).take (l.length * sz), hu, hszp, ?_, ?_, ?_, ?_, ?_⟩
                · rw [List.length_set]
                  refine ⟨by rw [List.length_take, hcur]; simp; omega, .inr ⟨bb, cap, _, rfl, hbase, setRow_heap w bb cur _ e _ hh, hnc, hcm, ?_, rfl⟩⟩
                  simp only [List.size_toArray]
                  rw [hcur]; simpa using hcs
                · rw [List.length_take, hcur, List.length_set]; simp; omega
                · intro z hz
                  obtain ⟨j, hj⟩ := List.mem_iff_getElem?.1 hz
                  rw [List.getElem?_take] at hj
                  split at hj
                  · rw [hget j] at hj
                    split at hj
                    · exact c2 _ z (by simpa using hj)
                    · rename_i hjl _
                      refine hrw.2.1 z (List.mem_of_getElem? (i := j) ?_)
                      rw [← htake, List.getElem?_take, if_pos hjl]
                      exact hj
                  · cases hj
                · intro q hq
                  rcases List.mem_or_eq_of_mem_set hq with hq | rfl
                  · exact hrw.2.2.1 q hq
                  · exact hdc
                · intro k j q z v hq hz hv
                  have hmono : ∀ {q : D} {z : Value}, Rd w (okB w0 oa φ (go st.hp) w) q z → Rd (w.setRow bb (cur.toList.take (i * sz + c) ++ (a.eval y).cells.toList ++ cur.toList.drop (i * sz + c + n)).toArray) ok q z := fun hr =>
                    hr.mono (fun k hk => setRow_other w bb k _ (hok k hk).2) (fun k hk => (hok k hk).1)
                  have hk : k < l.length := by
                    have := (List.getElem?_eq_some_iff.1 hq).1
                    rwa [List.length_set] at this
                  rw [List.getElem?_take] at hv
                  split at hv
                  case isFalse => cases hv
                  rename_i hjl
                  rw [hget] at hv
                  rw [List.getElem?_set] at hq
                  by_cases hik : i = k
                  · subst hik
                    rw [if_pos rfl, if_pos hi] at hq
                    cases hq
                    rw [hcells] at hz
                    have hget2 := mid_get (nth l i).cells ds c (by rw [hcl, hdl, hyn]; exact hcn) j
                    rw [hdl, hyn] at hget2
                    rw [hget2] at hz
                    have hj : j < sz := by
                      rcases Nat.lt_or_ge j sz with h5 | h5
                      · exact h5
                      · split at hz
                        · omega
                        · have := (List.getElem?_eq_some_iff.1 hz).1
                          omega
                    split at hv
                    · rename_i hc
                      rw [if_pos (by omega)] at hz
                      obtain ⟨d2, hd2, ht2⟩ := hdg (j - c) _ (List.getElem?_eq_getElem (by rw [← hdl]; exact (List.getElem?_eq_some_iff.1 hz).1))
                      obtain rfl : z = d2 := Option.some.inj (hz.symm.trans hd2)
                      have hjc : j - c < ys.length := by rw [← hdl]; exact (List.getElem?_eq_some_iff.1 hz).1
                      have hpj := List.all_eq_true.1 hpu ys[j - c] (List.getElem_mem hjc)
                      have hyv : (a.eval y).cells[j - c]? = some v := by
                        rw [show i * sz + j - (i * sz + c) = j - c by omega] at hv
                        simpa using hv
                      exact hmono ((toD1_rd hs.hr (c3 (j - c) _ v (by simp) hyv) (toD1_pure ht2 hpj)).2 hpj)
                    · rename_i hc
                      rw [if_neg (by omega)] at hz
                      refine hmono (hrw.2.2.2 i j _ z v (nth_get hi) hz ?_)
                      rw [← htake, List.getElem?_take, if_pos hjl]
                      exact hv
                  · rw [if_neg hik] at hq
                    have hj : j < sz := by rw [← hrw.2.2.1 q (List.mem_of_getElem? hq)]; exact (List.getElem?_eq_some_iff.1 hz).1
                    have hne : ¬ (i * sz + c ≤ k * sz + j ∧ k * sz + j < i * sz + c + n) := by
                      intro hc
                      rcases Nat.lt_or_ge i k with h6 | h6
                      · have : (i + 1) * sz ≤ k * sz := Nat.mul_le_mul_right _ h6
                        rw [Nat.add_mul, Nat.one_mul] at this
                        omega
                      · have : (k + 1) * sz ≤ i * sz := Nat.mul_le_mul_right _ (by omega)
                        rw [Nat.add_mul, Nat.one_mul] at this
                        omega
                    rw [if_neg hne] at hv
                    refine hmono (hrw.2.2.2 k j q z v hq hz ?_)
                    rw [← htake, List.getElem?_take, if_pos hjl]
                    exact hv
            · exact h.elim
          · exact h.elim
        · exact h.elim
      · exact h.elim
    · exact h.elim
  · exact h.elim
end Go.Proofs.Ytljohhinokaklaa.Am
