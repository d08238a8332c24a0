/- The abstract machine, part 4: loads, cuts, fields of values. -/
import Derived.Test.YtljohhinokaklaaAm3
set_option linter.unusedVariables false
set_option linter.unusedSimpArgs false
namespace Go.Proofs.Ytljohhinokaklaa.Am
open Go Go.RowKit

/-! ### loads -/
/-- A variable of b: struct or array, of n cells, out of cells. -/
def ldV (b : Bool) (n : Nat) (l : List V) : Option V :=
  if b = true then (if n ≤ l.length then some (.agg (l.take n)) else none) else l.head?
/-- Cells that lie at a place. -/
structure Win (φ : Nat → Option Value) (w : World) (ok : Nat → Prop) (bb o : Nat) (l : List V) (f : Nat → Value) : Prop where
  cell : ∀ j, j < l.length → w.cell? ⟨bb, o + j, none⟩ = some (f j)
  one : ∀ j, j < l.length → (f j).oneCell' = true
  vr : ∀ j x, l[j]? = some x → VR φ w ok x (f j)
theorem Win.drop {φ : Nat → Option Value} {w : World} {ok : Nat → Prop} {bb o : Nat} {l : List V} {f : Nat → Value} (h : Win φ w ok bb o l f) (k : Nat) : Win φ w ok bb (o + k) (l.drop k) (fun j => f (k + j)) := by
  refine ⟨fun j hj => ?_, fun j hj => ?_, fun j x hx => ?_⟩
  · rw [List.length_drop] at hj
    rw [Nat.add_assoc]
    exact h.cell _ (by omega)
  · rw [List.length_drop] at hj
    exact h.one _ (by omega)
  · rw [List.getElem?_drop] at hx
    exact h.vr _ x hx
theorem win_load {P : Program} {φ : Nat → Option Value} {w : World} {ok : Nat → Prop} {bb o : Nat} {l : List V} {f : Nat → Value} (h : Win φ w ok bb o l f) {t : TypeId} {b : Bool} {n : Nat} (ht : tk P t = some (b, n)) {v : V} (hv : ldV b n l = some v) :
    ∃ y, (loadVar t ⟨bb, o, none⟩).run P w = .ok y w ∧ VR φ w ok v y := by
  obtain ⟨d, inf, hu, hinf, hb, hn⟩ := tk_open ht
  unfold ldV at hv
  split at hv
  · rename_i hb1
    split at hv
    · rename_i hle
      cases hv
      refine ⟨.agg ((List.range n).map f).toArray, ?_, ?_⟩
      · have hl := run_loadCells (P := P) w ⟨bb, o, none⟩ n f (fun j hj => by rw [Addr.add_lit]; exact h.cell j (by omega))
        simp [loadVar, run_isAgg hu, hb, hb1, run_size hinf, hn, hl]
      · refine .agg _ _ (by simp; omega) (fun j y hy => ?_) (fun j x y hx hy => ?_)
        · have hj : j < n := by
            have := (Array.getElem?_eq_some_iff.1 hy).1
            simpa using this
          simp [hj] at hy
          subst hy
          exact h.one j (by omega)
        · have hj : j < n := by
            have := (Array.getElem?_eq_some_iff.1 hy).1
            simpa using this
          simp [hj] at hy
          subst hy
          rw [List.getElem?_take, if_pos hj] at hx
          exact h.vr j x hx
    · cases hv
  · rename_i hb1
    cases l with
    | nil => cases hv
    | cons x r =>
      cases hv
      refine ⟨f 0, ?_, h.vr 0 _ rfl⟩
      have hc := h.cell 0 (by simp)
      simp only [Nat.add_zero] at hc
      simp [loadVar, run_isAgg hu, hb, hb1, hc]
theorem box_win {w0 w : World} {oa : Nat → Prop} {φ : Nat → Option Value} {hp : Nat → Option Ob} (hr : HR w0 oa φ hp w) {id : Nat} {l : List V} (hg : hp id = some (.box l)) : ∃ bb f, φ id = some (.pointer (some ⟨bb, 0, none⟩)) ∧ Win φ w (okB w0 oa φ hp w) bb 0 l f := by
  obtain ⟨bb, t, cs, hu, hb, hh, hl, h1, hv⟩ := hr.obj id _ hg
  have hget : ∀ j, j < l.length → cs[j]? = some (cs.getD j undef) := fun j hj => by
    have : j < cs.size := by omega
    simp [Array.getD_eq_getD_getElem?, this]
  refine ⟨bb, fun j => cs.getD j undef, hu, ⟨fun j hj => ?_, fun j hj => h1 j _ (hget j hj), fun j x hx => hv j x _ hx (hget j (List.getElem?_eq_some_iff.1 hx).1)⟩⟩
  rw [cell_of_row w bb (0 + j) cs t (0, 0) hh, Nat.zero_add]
  exact hget j hj
theorem row_win {w0 w : World} {oa : Nat → Prop} {φ : Nat → Option Value} {hp : Nat → Option Ob} (hr : HR w0 oa φ hp w) {id e sz : Nat} {l : List D} (hg : hp id = some (.row e sz l)) {bb n cap : Nat} (hu : φ id = some (.slice (some ⟨bb, 0, none⟩) n cap)) {i : Nat} (hi : i < l.length) :
    ∃ f, Win φ w (okB w0 oa φ hp w) bb (i * sz) ((nth l i).cells.map .d) f := by
  obtain ⟨u, cs, hu', hsz, ho, hrw⟩ := hr.obj id _ hg
  obtain rfl : u = _ := Option.some.inj (hu'.symm.trans hu)
  have hcell := ho.cells (g := bb) rfl
  have hcl : (nth l i).cells.length = sz := hrw.2.2.1 _ (List.mem_of_getElem? (nth_get hi))
  have hlt : ∀ j, j < sz → i * sz + j < cs.length := fun j hj => by
    rw [hrw.1]
    calc i * sz + j < i * sz + sz := by omega
      _ = (i + 1) * sz := by rw [Nat.add_mul, Nat.one_mul]
      _ ≤ l.length * sz := Nat.mul_le_mul_right _ hi
  have hget : ∀ j, j < sz → cs[i * sz + j]? = some (cs.getD (i * sz + j) undef) := fun j hj => by simp [List.getD_eq_getElem?_getD, hlt j hj]
  refine ⟨fun j => cs.getD (i * sz + j) undef, ⟨fun j hj => ?_, fun j hj => ?_, fun j x hx => ?_⟩⟩
  · simp only [List.length_map, hcl] at hj
    have := hcell (i * sz + j) _ (hget j hj)
    rwa [Addr.add_lit, Nat.zero_add] at this
  · simp only [List.length_map, hcl] at hj
    exact hrw.2.1 _ (List.mem_of_getElem? (hget j hj))
  · rw [List.getElem?_map] at hx
    obtain ⟨z, hz, rfl⟩ := Option.map_eq_some_iff.1 hx
    have hj : j < sz := by rw [← hcl]; exact (List.getElem?_eq_some_iff.1 hz).1
    exact .d _ _ (hrw.2.2.2 i j _ z _ (nth_get hi) hz (hget j hj))
theorem ref_win {φ : Nat → Option Value} {w : World} {ok : Nat → Prop} {d : D} {y : Value} (h : VR φ w ok (.d (.ref d)) y) : ∃ bb o f, y = .pointer (some ⟨bb, o, none⟩) ∧ Win φ w ok bb o (d.cells.map .d) f := by
  obtain ⟨bb, o, vals, rfl, hok, hv, h1, hh⟩ := vr_ref h
  refine ⟨bb, o, vals, rfl, ⟨fun j hj => hv j (by simpa using hj), fun j hj => h1 j (by simpa using hj), fun j x hx => ?_⟩⟩
  rw [List.getElem?_map] at hx
  obtain ⟨z, hz, rfl⟩ := Option.map_eq_some_iff.1 hx
  exact .d _ _ (hh j z hz)
def e_load (P : Program) (t : TypeId) (x : Operand) (o : Oper) (st : St) (K : V → List (Nat × Ob) → Prop) : Prop :=
  dOk o.dst st.nt ∧ match tk P t with
  | some (b, n) => match st.ev x with
    | .ptr id off => match go st.hp id with
      | some (.box l) => match ldV b n (l.drop off) with
        | some v => K v []
        | none => False
      | _ => False
    | .ep id sz i c => match go st.hp id with
      | some (.row _ sz' l) => sz = sz' ∧ i < l.length ∧ match ldV b n (((nth l i).cells.map .d).drop c) with
        | some v => K v []
        | none => False
      | _ => False
    | .d (.ref d) => match ldV b n (d.cells.map .d) with
      | some v => K v []
      | none => False
    | _ => False
  | none => False
theorem s_load {P : Program} {t : TypeId} {x : Operand} {o : Oper} {st : St} {K : St → Prop} (ho : o.op = .load t x) (h : e_load P t x o st fun x ups => K (st.upd o.dst x ups)) : Does P o st K := by
  obtain ⟨hd, h⟩ := h
  have hrun : ∀ (a : Act) (w : World) (bb off : Nat) (y : Value), a.eval x = .pointer (some ⟨bb, off, none⟩) → (loadVar t ⟨bb, off, none⟩).run P w = .ok y w → (execOp a.eval o).run P w = .ok (.value y) w := by
    intro a w bb off y h1 h2
    simp [execOp, ho, h1, Instr.loadAt, Instr.sureAddr, h2]
  split at h
  · rename_i b n ht
    split at h
    · rename_i id off hx
      split at h
      · rename_i l hg
        split at h
        · rename_i v hv
          refine does_val v hd (fun w0 oa φ a w hs => ?_) h
          have e1 := hs.ev x; rw [hx] at e1
          obtain ⟨bb, hb, e1⟩ := vr_ptr e1
          obtain ⟨bb', f, hu, hw⟩ := box_win hs.hr hg
          obtain rfl : bb = bb' := by have := hb.symm.trans hu; simpa using this
          obtain ⟨y, hy, hvy⟩ := win_load (hw.drop off) ht hv
          exact ⟨y, hrun a w _ _ y e1 (by simpa using hy), hvy⟩
        · exact h.elim
      · exact h.elim
    · rename_i id sz i c hx
      split at h
      · rename_i e sz' l hg
        obtain ⟨rfl, hi, h⟩ := h
        split at h
        · rename_i v hv
          refine does_val v hd (fun w0 oa φ a w hs => ?_) h
          have e1 := hs.ev x; rw [hx] at e1
          obtain ⟨bb, m, cap, hb, e1⟩ := vr_ep e1
          obtain ⟨f, hw⟩ := row_win hs.hr hg hb hi
          obtain ⟨y, hy, hvy⟩ := win_load (hw.drop c) ht hv
          exact ⟨y, hrun a w _ _ y e1 hy, hvy⟩
        · exact h.elim
      · exact h.elim
    · rename_i d hx
      split at h
      · rename_i v hv
        refine does_val v hd (fun w0 oa φ a w hs => ?_) h
        have e1 := hs.ev x; rw [hx] at e1
        obtain ⟨bb, o', f, e1, hw⟩ := ref_win e1
        obtain ⟨y, hy, hvy⟩ := win_load hw ht hv
        exact ⟨y, hrun a w _ _ y e1 hy, hvy⟩
      · exact h.elim
    · exact h.elim
  · exact h.elim

/-! ### fields of values -/
def e_fld (P : Program) (s : TypeId) (x : Operand) (f : Nat) (o : Oper) (st : St) (K : V → List (Nat × Ob) → Prop) : Prop :=
  dOk o.dst st.nt ∧ match fo P s f with
  | some (off, t) => match tk P t with
    | some (b, n) => match st.ev x with
      | .agg l => match ldV b n (l.drop off) with
        | some v => K v []
        | none => False
      | _ => False
    | none => False
  | none => False
theorem s_fld {P : Program} {s : TypeId} {x : Operand} {f : Nat} {o : Oper} {st : St} {K : St → Prop} (ho : o.op = .field s x f) (h : e_fld P s x f o st fun x ups => K (st.upd o.dst x ups)) : Does P o st K := by
  obtain ⟨hd, h⟩ := h
  split at h
  · rename_i off t hf
    split at h
    · rename_i b n ht
      split at h
      · rename_i l hx
        split at h
        · rename_i v hv
          obtain ⟨fs, fl, hs, hfl, rfl, rfl⟩ := fo_open hf
          obtain ⟨d, inf, hu, hinf, hb, rfl⟩ := tk_open ht
          refine does_val v hd (fun w0 oa φ a w hss => ?_) h
          have e1 := hss.ev x; rw [hx] at e1
          obtain ⟨cs, e1, hl, h1, hh⟩ := vr_agg e1
          unfold ldV at hv
          split at hv
          · rename_i hb1
            split at hv
            · rename_i hle
              cases hv
              rw [List.length_drop] at hle
              refine ⟨.agg (cs.extract fl.offset (fl.offset + inf.size)), by simp [execOp, ho, e1, Instr.field, run_underlying hs, hfl, asAgg, part, run_isAgg hu, hb, hb1, run_size hinf], ?_⟩
              refine .agg _ _ (by simp; omega) (fun j y hy => ?_) (fun j x y hx hy => ?_)
              · rw [Array.getElem?_extract] at hy
                split at hy
                · exact h1 _ y hy
                · cases hy
              · rw [Array.getElem?_extract] at hy
                split at hy
                · rw [List.getElem?_take] at hx
                  split at hx
                  · rw [List.getElem?_drop] at hx
                    exact hh _ x y hx hy
                  · cases hx
                · cases hy
            · cases hv
          · rename_i hb1
            rw [List.head?_drop] at hv
            have hlt := (List.getElem?_eq_some_iff.1 hv).1
            have hc : cs[fl.offset]? = some (cs[fl.offset]'(by omega)) := by simp
            refine ⟨_, ?_, hh _ v _ hv hc⟩
            simp [execOp, ho, e1, Instr.field, run_underlying hs, hfl, asAgg, part, run_isAgg hu, hb, hb1, hc]
        · exact h.elim
      · exact h.elim
    · exact h.elim
  · exact h.elim

/-! ### cuts -/
def oint (st : St) : Option Operand → Option (Option Int)
  | none => some none
  | some x => match st.ev x with
    | .d (.v (.int _ n)) => some (some n)
    | _ => none
theorem oint_ok {w0 : World} {oa : Nat → Prop} {φ : Nat → Option Value} {st : St} {a : Act} {w : World} (hs : SRp w0 oa φ st a w) {x : Option Operand} {r : Option Int} (h : oint st x = some r) : (r = none ∧ x.map a.eval = none) ∨ ∃ n k, r = some n ∧ x.map a.eval = some (.int k n) := by
  cases x with
  | none => simp only [oint, Option.some.injEq] at h; exact .inl ⟨h.symm, rfl⟩
  | some x =>
    simp only [oint] at h
    split at h
    · rename_i k n hx
      cases h
      have e1 := hs.ev x; rw [hx] at e1
      exact .inr ⟨n, k, rfl, by simp [vr_v e1]⟩
    · cases h
/-- Where a cut begins and ends: within the length; with a third index, within it. -/
def cutOk (len : Nat) (lo hi mx : Option Int) : Prop :=
  0 ≤ lo.getD 0 ∧ lo.getD 0 ≤ hi.getD len ∧ hi.getD len ≤ mx.getD len ∧ mx.getD len ≤ len ∧ (mx.isSome = true → hi.isSome = true)
theorem run_cut {P : Program} {t e : TypeId} {inf : TypeInfo} (hu : P.underlying t = some (.slice e)) (hinf : P.info? e = some inf) (A : Option Addr) (len c : Nat) (hlc : len ≤ c) {lo hi mx : Option Int} (h : cutOk len lo hi mx) {vl vh vm : Option Value}
    (hl : (lo = none ∧ vl = none) ∨ ∃ n k, lo = some n ∧ vl = some (.int k n)) (hh : (hi = none ∧ vh = none) ∨ ∃ n k, hi = some n ∧ vh = some (.int k n)) (hm : (mx = none ∧ vm = none) ∨ ∃ n k, mx = some n ∧ vm = some (.int k n)) (w : World) :
    (Instr.sliceAt t (.slice A len c) vl vh vm).run P w = .ok (sliced A (lo.getD 0).toNat (hi.getD len).toNat (match mx with | some m => m.toNat | none => c) inf.size) w := by
  have hel : P.elem t = e := by simp [Program.elem, hu]
  have hu' : P.underlying t = some (.slice (P.elem t)) := by rw [hel]; exact hu
  obtain ⟨h0, h1, h2, h3, h4⟩ := h
  rw [run_sliceAt_slice w t _ _ _ _ hu']
  rcases hl with ⟨rfl, rfl⟩ | ⟨l, kl, rfl, rfl⟩ <;> rcases hh with ⟨rfl, rfl⟩ | ⟨hh, kh, rfl, rfl⟩ <;> rcases hm with ⟨rfl, rfl⟩ | ⟨m, km, rfl, rfl⟩ <;> simp only [Option.getD_some, Option.getD_none, Option.isSome_some, Option.isSome_none] at h0 h1 h2 h3 h4 ⊢
  · rw [run_slice_all w t A len c hu', hel, run_size hinf]; rfl
  · simp at h4
  · rw [run_slice_h w t A len c hu' kh hh (by omega) (by omega), hel, run_size hinf]; rfl
  · rw [run_slice_hm w t A len c hu' kh km hh m (by omega) (by omega) (by omega), hel, run_size hinf]; rfl
  · rw [run_slice_l w t A len c hu' kl l (by omega) (by omega), hel, run_size hinf]; rfl
  · simp at h4
  · rw [run_slice_lh w t A len c hu' kl kh l hh (by omega) (by omega) (by omega), hel, run_size hinf]; rfl
  · rw [run_slice_lhm w t A len c hu' kl kh km l hh m (by omega) (by omega) (by omega) (by omega), hel, run_size hinf]; rfl
theorem rd_cut {w : World} {ok : Nat → Prop} {l : List D} {A : Option Addr} {n c : Nat} (h : Rd w ok (.list l) (.slice A n c)) {i j m sz : Nat} (hij : i ≤ j) (hj : j ≤ l.length) (hm : j ≤ m) (hsz : j ≠ i → ∀ d ∈ l, d.cells.length = sz) :
    Rd w ok (.list ((l.take j).drop i)) (sliced A i j m sz) := by
  have hlen : ((l.take j).drop i).length = j - i := by rw [List.length_drop, List.length_take]; omega
  unfold sliced
  by_cases h0 : j = i
  · subst h0
    have : (l.take j).drop j = [] := List.eq_nil_of_length_eq_zero (by rw [hlen]; omega)
    rw [this, Nat.sub_self]
    exact .nil _ _
  · rw [if_neg (by omega)]
    cases h with
    | nil => simp at hj; omega
    | list _ sz' b o _ vals hc hok hs hd hv h1 hh =>
      have hl0 : 0 < l.length := by omega
      have hszz : sz' = sz := by rw [← hd (l[0]'hl0) (List.getElem_mem hl0), hsz h0 _ (List.getElem_mem hl0)]
      subst hszz
      have hin : ∀ k, k < (j - i) * sz' → i * sz' + k < l.length * sz' := fun k hk => by
        calc i * sz' + k < i * sz' + (j - i) * sz' := by omega
          _ = j * sz' := by rw [← Nat.add_mul]; congr 1; omega
          _ ≤ l.length * sz' := Nat.mul_le_mul_right _ hj
      have hA : (some (⟨b, o, none⟩ : Addr)).map (·.add (i * sz')) = some ⟨b, o + i * sz', none⟩ := by simp [Addr.add_lit]
      rw [hA]
      have := Rd.list (w := w) (ok := ok) ((l.take j).drop i) sz' b (o + i * sz') (m - i) (fun k => vals (i * sz' + k)) (by rw [hlen]; omega) hok hs (fun d hd' => hd d (List.mem_of_mem_take (List.mem_of_mem_drop hd')))
        (fun k hk => by rw [hlen] at hk; rw [Nat.add_assoc]; exact hv _ (hin k hk)) (fun k hk => by rw [hlen] at hk; exact h1 _ (hin k hk))
        (fun a b' d x hda hx => by
          have e : i * sz' + (a * sz' + b') = (i + a) * sz' + b' := by rw [Nat.add_mul, Nat.add_assoc]
          rw [e]
          rw [List.getElem?_drop] at hda
          rw [List.getElem?_take] at hda
          split at hda
          · exact hh _ _ d x hda hx
          · cases hda)
      rw [hlen] at this
      exact this
def e_cut (P : Program) (t : TypeId) (x : Operand) (lo hi mx : Option Operand) (o : Oper) (st : St) (K : V → List (Nat × Ob) → Prop) : Prop :=
  dOk o.dst st.nt ∧ match el P t with
  | some (_, sz, _) => match oint st lo with
    | some lo => match oint st hi with
      | some hi => match oint st mx with
        | some mx => match st.ev x with
          | .d (.list l) => cutOk l.length lo hi mx ∧ (∀ d ∈ l, d.cells.length = sz) ∧ K (.d (.list ((l.take (hi.getD l.length).toNat).drop (lo.getD 0).toNat))) []
          | .nil => cutOk 0 lo hi mx ∧ K (.d (.list [])) []
          | .sl id sz' off len full => sz = sz' ∧ cutOk len lo hi mx ∧ K (.sl id sz' (off + (lo.getD 0).toNat) ((hi.getD len).toNat - (lo.getD 0).toNat) (full && lo.isNone && hi.isNone && mx.isNone)) []
          | _ => False
        | none => False
      | none => False
    | none => False
  | none => False
theorem s_cut {P : Program} {t : TypeId} {x : Operand} {lo hi mx : Option Operand} {o : Oper} {st : St} {K : St → Prop} (ho : o.op = .slice t x lo hi mx) (h : e_cut P t x lo hi mx o st fun x ups => K (st.upd o.dst x ups)) : Does P o st K := by
  obtain ⟨hd, h⟩ := h
  split at h
  · rename_i e sz by' he
    obtain ⟨inf, hu, hinf, hsz, _⟩ := el_open he
    split at h
    · rename_i lo' hlo
      split at h
      · rename_i hi' hhi
        split at h
        · rename_i mx' hmx
          split at h
          · rename_i l hx
            obtain ⟨hc, hcl, h⟩ := h
            refine does_val _ hd (fun w0 oa φ a w hs => ?_) h
            have e1 := hs.ev x; rw [hx] at e1
            obtain ⟨A, c, e2, hle⟩ := lenV_vr (x := .d (.list l)) rfl e1
            refine ⟨_, by simp [execOp, ho, e2]; rw [run_cut hu hinf A l.length c hle hc (oint_ok hs hlo) (oint_ok hs hhi) (oint_ok hs hmx)]; rfl, ?_⟩
            rw [e2] at e1
            cases e1 with
            | d _ _ e1 =>
              obtain ⟨h0, h1, h2, h3, h4⟩ := hc
              refine .d _ _ (rd_cut e1 (by omega) (by omega) ?_ (fun _ d hd => by rw [hcl d hd, hsz]))
              cases mx' with
              | none => simp only [Option.getD_none] at h2; show (hi'.getD l.length).toNat ≤ c; omega
              | some m => simp only [Option.getD_some] at h2; show (hi'.getD l.length).toNat ≤ m.toNat; omega
          · rename_i hx
            obtain ⟨hc, h⟩ := h
            refine does_val _ hd (fun w0 oa φ a w hs => ?_) h
            have e1 := hs.ev x; rw [hx] at e1
            cases hY : a.eval x with
            | slice A n c =>
              rw [hY] at e1
              cases e1
              refine ⟨_, by simp [execOp, ho, hY]; rw [run_cut hu hinf none 0 0 (Nat.le_refl _) hc (oint_ok hs hlo) (oint_ok hs hhi) (oint_ok hs hmx)]; rfl, ?_⟩
              obtain ⟨h0, h1, h2, h3, h4⟩ := hc
              have : (hi'.getD ((0 : Nat) : Int)).toNat - (lo'.getD 0).toNat = 0 := by omega
              unfold sliced
              rw [this]
              exact .d _ _ (.nil _ _)
            | _ => rw [hY] at e1; cases e1
          · rename_i id sz' off len full hx
            obtain ⟨rfl, hc, h⟩ := h
            refine does_val _ hd (fun w0 oa φ a w hs => ?_) h
            have e1 := hs.ev x; rw [hx] at e1
            cases hY : a.eval x with
            | slice A n c =>
              rw [hY] at e1
              cases e1 with
              | sl _ _ _ _ _ u _ _ hid hlc hf ha =>
                refine ⟨_, by simp [execOp, ho, hY]; rw [run_cut hu hinf A len c hlc hc (oint_ok hs hlo) (oint_ok hs hhi) (oint_ok hs hmx)]; rfl, ?_⟩
                obtain ⟨h0, h1, h2, h3, h4⟩ := hc
                unfold sliced
                refine .sl _ _ _ _ _ u _ _ hid ?_ ?_ ?_
                · cases mx' with
                  | none => simp only [Option.getD_none] at h2 h3; show _ ≤ c - _; omega
                  | some m => simp only [Option.getD_some] at h2 h3; show _ ≤ m.toNat - _; omega
                · intro hfull
                  simp only [Bool.and_eq_true, Option.isNone_iff_eq_none] at hfull
                  obtain ⟨⟨⟨hfl, rfl⟩, rfl⟩, rfl⟩ := hfull
                  obtain ⟨rfl, rfl⟩ := hf hfl
                  simp only [Option.getD_none, Int.toNat_zero, Int.toNat_natCast, Nat.sub_zero, Nat.zero_mul, Nat.add_zero]
                  refine ⟨?_, trivial⟩
                  cases A <;> simp [Addr.add]
                · by_cases hz : (hi'.getD (len : Int)).toNat - (lo'.getD 0).toNat = 0
                  · exact .inl hz
                  · refine .inr ?_
                    rcases ha with ha | ⟨b, m', cap, rfl, rfl⟩
                    · omega
                    · refine ⟨b, m', cap, rfl, ?_⟩
                      rw [if_neg]
                      · simp [Addr.add_lit, Nat.add_mul, hsz]
                      · cases mx' with
                        | none => simp only [Option.getD_none] at h2 h3; show ¬ c = _; omega
                        | some m => simp only [Option.getD_some] at h2 h3; show ¬ m.toNat = _; omega
            | _ => rw [hY] at e1; cases e1
          · exact h.elim
        · exact h.elim
      · exact h.elim
    · exact h.elim
  · exact h.elim
end Go.Proofs.Ytljohhinokaklaa.Am
