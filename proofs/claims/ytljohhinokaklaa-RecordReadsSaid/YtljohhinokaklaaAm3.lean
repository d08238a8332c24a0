/- The abstract machine, part 3: lengths, places, loads, cuts. -/
import Derived.Test.YtljohhinokaklaaAm2
set_option linter.unusedVariables false
set_option linter.unusedSimpArgs false
namespace Go.Proofs.Ytljohhinokaklaa.Am
open Go Go.RowKit

/-! ### lengths, least and greatest -/
def lenV : V → Option Nat
  | .d (.list l) => some l.length
  | .nil => some 0
  | .sl _ _ _ n _ => some n
  | _ => none
theorem lenV_vr {φ : Nat → Option Value} {w : World} {ok : Nat → Prop} {x : V} {n : Nat} {y : Value} (h : lenV x = some n) (hv : VR φ w ok x y) : ∃ A c, y = .slice A n c ∧ n ≤ c := by
  cases x with
  | d x => cases x with
    | list l =>
      simp only [lenV, Option.some.injEq] at h
      subst h
      cases hv with
      | d _ _ hv => cases hv with
        | nil A c => exact ⟨A, c, rfl, Nat.zero_le _⟩
        | list _ sz b o c vals hc => exact ⟨_, c, rfl, hc⟩
    | _ => simp [lenV] at h
  | nil => simp only [lenV, Option.some.injEq] at h; subst h; cases hv; exact ⟨_, _, rfl, Nat.le_refl _⟩
  | sl id sz off len full => simp only [lenV, Option.some.injEq] at h; subst h; cases hv with | sl _ _ _ _ _ u A c _ hc => exact ⟨A, c, rfl, hc⟩
  | _ => simp [lenV] at h
def slT (P : Program) (t : TypeId) : Bool := match P.underlying t with | some (.slice _) => true | _ => false
theorem slT_open {P : Program} {t : TypeId} (h : slT P t = true) : P.underlying t = some (.slice (P.elem t)) := by
  unfold slT at h
  split at h
  · rename_i e he; simp [Program.elem, he]
  · cases h
def e_len (P : Program) (t : TypeId) (x : Operand) (o : Oper) (st : St) (K : V → List (Nat × Ob) → Prop) : Prop :=
  dOk o.dst st.nt ∧ slT P t = true ∧ match lenV (st.ev x) with
  | some n => K (.d (.v (.int .i64 n))) []
  | none => False
theorem s_len {P : Program} {t : TypeId} {x : Operand} {o : Oper} {st : St} {K : St → Prop} (ho : o.op = .call { callee := .builtin .len, args := #[x], argTypes := #[t] }) (h : e_len P t x o st fun x ups => K (st.upd o.dst x ups)) : Does P o st K := by
  obtain ⟨hd, ht, h⟩ := h
  split at h
  · rename_i n hn
    refine does_val _ hd (fun w0 oa φ a w hs => ⟨_, ?_, .d _ _ (.v _)⟩) h
    obtain ⟨A, c, e1, _⟩ := lenV_vr hn (hs.ev x)
    simp [execOp, ho, resolve, invoke, builtin, e1, run_len_slice w t _ A n c (slT_open ht), goInt]
  · exact h.elim
theorem min2_min (k : IntKind) (x y : Int) : Builtin.min2 (.int k x) (.int k y) = pure (.int k (min x y)) := by
  simp only [Builtin.min2]
  congr 2
  simp only [Int.min_def]
  split <;> split <;> omega
theorem max2_max (k : IntKind) (x y : Int) : Builtin.max2 (.int k x) (.int k y) = pure (.int k (max x y)) := by
  simp only [Builtin.max2]
  congr 2
  simp only [Int.max_def]
  split <;> split <;> omega
def e_mm (mx : Bool) (xs : Array Operand) (o : Oper) (st : St) (K : V → List (Nat × Ob) → Prop) : Prop :=
  dOk o.dst st.nt ∧ match xs.toList with
  | [x, y] => match st.ev x, st.ev y with
    | .d (.v (.int k a)), .d (.v (.int k' b)) => k = k' ∧ K (.d (.v (.int k (if mx = true then max a b else min a b)))) []
    | _, _ => False
  | [x, y, z] => match st.ev x, st.ev y, st.ev z with
    | .d (.v (.int k a)), .d (.v (.int k' b)), .d (.v (.int k'' c)) => k = k' ∧ k = k'' ∧ K (.d (.v (.int k (if mx = true then max (max a b) c else min (min a b) c)))) []
    | _, _, _ => False
  | _ => False
theorem s_mm {P : Program} {mx : Bool} {xs : Array Operand} {ts : Array TypeId} {o : Oper} {st : St} {K : St → Prop} (ho : o.op = .call { callee := .builtin (if mx then .max else .min), args := xs, argTypes := ts }) (h : e_mm mx xs o st fun x ups => K (st.upd o.dst x ups)) : Does P o st K := by
  obtain ⟨hd, h⟩ := h
  obtain ⟨xs⟩ := xs
  dsimp only at h
  split at h
  · rename_i x y
    split at h
    · rename_i k a k' b hx hy
      obtain ⟨rfl, h⟩ := h
      refine does_val _ hd (fun w0 oa φ ac w hs => ⟨_, ?_, .d _ _ (.v _)⟩) h
      have e1 := hs.ev x; rw [hx] at e1
      have e2 := hs.ev y; rw [hy] at e2
      cases mx <;> simp [execOp, ho, resolve, invoke, builtin, vr_v e1, vr_v e2, Builtin.max_, Builtin.min_, max2_max, min2_min]
    · exact h.elim
  · rename_i x y z
    split at h
    · rename_i k a k' b k'' c hx hy hz
      obtain ⟨rfl, rfl, h⟩ := h
      refine does_val _ hd (fun w0 oa φ ac w hs => ⟨_, ?_, .d _ _ (.v _)⟩) h
      have e1 := hs.ev x; rw [hx] at e1
      have e2 := hs.ev y; rw [hy] at e2
      have e3 := hs.ev z; rw [hz] at e3
      cases mx <;> simp [execOp, ho, resolve, invoke, builtin, vr_v e1, vr_v e2, vr_v e3, Builtin.max_, Builtin.min_, max2_max, min2_min]
    · exact h.elim
  · exact h.elim

/-! ### places -/
def nth (l : List D) (i : Nat) : D := l.getD i (.v undef)
theorem nth_get {l : List D} {i : Nat} (h : i < l.length) : l[i]? = some (nth l i) := by simp [nth, List.getD_eq_getElem?_getD, h]
def e_nil (x : Operand) (o : Oper) (st : St) (K : V → List (Nat × Ob) → Prop) : Prop :=
  dOk o.dst st.nt ∧ match st.ev x with
  | .ptr id off => K (.ptr id off) []
  | .ep id sz i c => K (.ep id sz i c) []
  | .d (.ref d) => K (.d (.ref d)) []
  | _ => False
theorem s_nil {P : Program} {x : Operand} {o : Oper} {st : St} {K : St → Prop} (ho : o.op = .nilCheck x) (h : e_nil x o st fun x ups => K (st.upd o.dst x ups)) : Does P o st K := by
  obtain ⟨hd, h⟩ := h
  split at h
  · rename_i id off hx
    refine does_val _ hd (fun w0 oa φ a w hs => ⟨a.eval x, ?_, by have := hs.ev x; rwa [hx] at this⟩) h
    have e1 := hs.ev x; rw [hx] at e1
    obtain ⟨b, _, e1⟩ := vr_ptr e1
    simp [execOp, ho, e1]
  · rename_i id sz i c hx
    refine does_val _ hd (fun w0 oa φ a w hs => ⟨a.eval x, ?_, by have := hs.ev x; rwa [hx] at this⟩) h
    have e1 := hs.ev x; rw [hx] at e1
    obtain ⟨b, _, _, _, e1⟩ := vr_ep e1
    simp [execOp, ho, e1]
  · rename_i d hx
    refine does_val _ hd (fun w0 oa φ a w hs => ⟨a.eval x, ?_, by have := hs.ev x; rwa [hx] at this⟩) h
    have e1 := hs.ev x; rw [hx] at e1
    obtain ⟨b, o', vals, e1, _⟩ := vr_ref e1
    simp [execOp, ho, e1]
  · exact h.elim
def e_index (P : Program) (t : TypeId) (x i : Operand) (o : Oper) (st : St) (K : V → List (Nat × Ob) → Prop) : Prop :=
  dOk o.dst st.nt ∧ match st.ev i with
  | .d (.v (.int _ n)) => match st.ev x with
    | .d (.list l) => match el P t with
      | some (_, sz, _) => 0 ≤ n ∧ n < l.length ∧ (nth l n.toNat).cells.length = sz ∧ K (.d (.ref (nth l n.toNat))) []
      | none => False
    | .sl id sz off len _ => match el P t with
      | some (_, sz', _) => 0 ≤ n ∧ n < len ∧ sz = sz' ∧ K (.ep id sz (off + n.toNat) 0) []
      | none => False
    | .ptr id off => match ar P t with
      | some (m, sz) => 0 ≤ n ∧ n < m ∧ K (.ptr id (off + n.toNat * sz)) []
      | none => False
    | _ => False
  | _ => False
theorem s_index {P : Program} {t : TypeId} {x i : Operand} {o : Oper} {st : St} {K : St → Prop} (ho : o.op = .indexAddr t x i) (h : e_index P t x i o st fun x ups => K (st.upd o.dst x ups)) : Does P o st K := by
  obtain ⟨hd, h⟩ := h
  split at h
  · rename_i k n hi
    split at h
    · rename_i l hx
      split at h
      · rename_i e sz by' he
        obtain ⟨h0, h1, hc, h⟩ := h
        obtain ⟨inf, hu, hinf, rfl, _⟩ := el_open he
        have hn : n.toNat < l.length := by omega
        refine does_run fun w0 oa φ a w hs => ?_
        have e1 := hs.ev x; rw [hx] at e1
        have e2 := hs.ev i; rw [hi] at e2
        cases hY : a.eval x with
        | slice A m c =>
          rw [hY] at e1
          cases e1 with
          | d _ _ e1 =>
            cases e1 with
            | nil => simp at hn
            | list _ sz b o' c vals hc' hok hsz hdd hv hone hh =>
              have hcl : (nth l n.toNat).cells.length = sz := hdd _ (List.mem_of_getElem? (nth_get hn))
              have hszz : sz = inf.size := by rw [← hcl, hc]
              subst hszz
              have hj2 : ∀ j, j < inf.size → n.toNat * inf.size + j < l.length * inf.size := fun j hj => by
                calc n.toNat * inf.size + j < n.toNat * inf.size + inf.size := by omega
                  _ = (n.toNat + 1) * inf.size := by rw [Nat.add_mul, Nat.one_mul]
                  _ ≤ l.length * inf.size := Nat.mul_le_mul_right _ hn
              refine ⟨.pointer (some ⟨b, o' + n.toNat * inf.size, none⟩), w, _, ?_, h, (hs.put _ hd (.d _ _ (.ref _ _ _ (fun j => vals (n.toNat * inf.size + j)) hok ?_ ?_ ?_))).sr⟩
              · have hr := run_indexAt_slice (P := P) w t ⟨b, o', none⟩ l.length c k n (slT_open (by simp [slT, hu]))
                have hel : P.elem t = e := by simp [Program.elem, hu]
                rw [hel, run_size hinf, if_pos ⟨h0, h1⟩] at hr
                simp [execOp, ho, hY, vr_v e2, hr, Addr.add_lit]
              · intro j hj
                rw [hcl] at hj
                rw [Nat.add_assoc]
                exact hv _ (hj2 j hj)
              · intro j hj
                rw [hcl] at hj
                exact hone _ (hj2 j hj)
              · intro j z hz
                exact hh n.toNat j _ z (nth_get hn) hz
        | _ => rw [hY] at e1; cases e1 with | d _ _ e1 => cases e1
      · exact h.elim
    · rename_i id sz off len full hx
      split at h
      · rename_i e sz' by' he
        obtain ⟨h0, h1, rfl, h⟩ := h
        obtain ⟨inf, hu, hinf, rfl, _⟩ := el_open he
        refine does_run fun w0 oa φ a w hs => ?_
        have e1 := hs.ev x; rw [hx] at e1
        have e2 := hs.ev i; rw [hi] at e2
        cases hY : a.eval x with
        | slice A m c =>
          rw [hY] at e1
          cases e1 with
          | sl _ _ _ _ _ u _ _ hid hc hf ha =>
            rcases ha with ha | ⟨b, m', cap, rfl, rfl⟩
            · omega
            · refine ⟨.pointer (some ⟨b, (off + n.toNat) * inf.size + 0, none⟩), w, _, ?_, h, (hs.put _ hd (.ep _ _ _ _ b m' cap hid)).sr⟩
              have hr := run_indexAt_slice (P := P) w t ⟨b, off * inf.size, none⟩ len c k n (slT_open (by simp [slT, hu]))
              have hel : P.elem t = e := by simp [Program.elem, hu]
              rw [hel, run_size hinf, if_pos ⟨h0, h1⟩] at hr
              simp [execOp, ho, hY, vr_v e2, hr, Addr.add_lit, Nat.add_mul]
        | _ => rw [hY] at e1; cases e1
      · exact h.elim
    · rename_i id off hx
      split at h
      · rename_i m sz he
        obtain ⟨h0, h1, h⟩ := h
        obtain ⟨e, inf, hu, hinf, rfl⟩ := ar_open he
        refine does_run fun w0 oa φ a w hs => ?_
        have e1 := hs.ev x; rw [hx] at e1
        have e2 := hs.ev i; rw [hi] at e2
        obtain ⟨b, hb, e1⟩ := vr_ptr e1
        refine ⟨.pointer (some ⟨b, off + n.toNat * inf.size, none⟩), w, _, ?_, h, (hs.put _ hd (.ptr _ _ b hb)).sr⟩
        have hel : P.elem t = e := by simp [Program.elem, hu]
        have hal : P.arrayLen t = m := by simp [Program.arrayLen, hu]
        have hr := run_indexAt_array (P := P) w t ⟨b, off, none⟩ k n (by rw [hel, hal]; exact hu)
        rw [hel, hal, run_size hinf, if_pos ⟨h0, h1⟩] at hr
        simp [execOp, ho, e1, vr_v e2, hr, Addr.add_lit]
      · exact h.elim
    · exact h.elim
  · exact h.elim
def subD (b : Bool) (n off : Nat) (l : List D) : Option D :=
  if b = true then (if off + n ≤ l.length then some (.agg ((l.drop off).take n)) else none) else l[off]?
def e_field (P : Program) (s : TypeId) (x : Operand) (f : Nat) (o : Oper) (st : St) (K : V → List (Nat × Ob) → Prop) : Prop :=
  dOk o.dst st.nt ∧ match fo P s f with
  | some (off, t) => match tk P t with
    | some (b, n) => n ≠ 0 ∧ match st.ev x with
      | .ptr id c => K (.ptr id (c + off)) []
      | .ep id sz i c => K (.ep id sz i (c + off)) []
      | .d (.ref (.agg l)) => match subD b n off l with
        | some d => (b = true ∨ d.cells = [d]) ∧ K (.d (.ref d)) []
        | none => False
      | _ => False
    | none => False
  | none => False
theorem s_field {P : Program} {s : TypeId} {x : Operand} {f : Nat} {o : Oper} {st : St} {K : St → Prop} (ho : o.op = .fieldAddr s x f) (h : e_field P s x f o st fun x ups => K (st.upd o.dst x ups)) : Does P o st K := by
  obtain ⟨hd, h⟩ := h
  split at h
  · rename_i off t hf
    split at h
    · rename_i b n ht
      obtain ⟨hn, h⟩ := h
      obtain ⟨fs, fl, hs, hfl, rfl, rfl⟩ := fo_open hf
      obtain ⟨d, inf, hu, hinf, hb, rfl⟩ := tk_open ht
      have hrun : ∀ (bb oo : Nat) (w : World), (Instr.fieldAt s (.pointer (some ⟨bb, oo, none⟩)) f).run P w = .ok (.pointer (some ⟨bb, oo + fl.offset, none⟩)) w := by
        intro bb oo w
        simp [Instr.fieldAt, run_underlying hs, hfl, Instr.sureAddr, fieldPlace, run_size hinf, hn, Addr.add_lit]
      split at h
      · rename_i id c hx
        refine does_run fun w0 oa φ a w hss => ?_
        have e1 := hss.ev x; rw [hx] at e1
        obtain ⟨bb, hbb, e1⟩ := vr_ptr e1
        exact ⟨_, w, _, by (simp [execOp, ho, e1, hrun] <;> rfl), h, (hss.put _ hd (.ptr _ _ bb hbb)).sr⟩
      · rename_i id sz i c hx
        refine does_run fun w0 oa φ a w hss => ?_
        have e1 := hss.ev x; rw [hx] at e1
        obtain ⟨bb, m, cap, hbb, e1⟩ := vr_ep e1
        exact ⟨_, w, _, by (simp [execOp, ho, e1, hrun] <;> rfl), h, (hss.put _ hd (by rw [Nat.add_assoc]; exact .ep _ _ _ _ bb m cap hbb)).sr⟩
      · rename_i l hx
        split at h
        · rename_i d' hd'
          obtain ⟨hcell, h⟩ := h
          refine does_run fun w0 oa φ a w hss => ?_
          have e1 := hss.ev x; rw [hx] at e1
          obtain ⟨bb, oo, vals, e1, hok, hv, h1, hh⟩ := vr_ref e1
          simp only [D.cells] at hv h1 hh
          refine ⟨_, w, _, by (simp [execOp, ho, e1, hrun] <;> rfl), h, (hss.put _ hd (.d _ _ (.ref _ _ _ (fun j => vals (fl.offset + j)) hok ?_ ?_ ?_))).sr⟩
          all_goals
            unfold subD at hd'
            split at hd'
            · split at hd'
              · rename_i hle
                cases hd'
                intro j
                first
                  | (intro hj
                     simp only [D.cells, List.length_take, List.length_drop] at hj
                     first | (rw [Nat.add_assoc]; exact hv _ (by omega)) | exact h1 _ (by omega))
                  | (intro z hz
                     simp only [D.cells] at hz
                     rw [List.getElem?_take] at hz
                     split at hz
                     · rw [List.getElem?_drop] at hz
                       exact hh _ z hz
                     · cases hz)
              · cases hd'
            · rename_i hbf
              have hc1 : d'.cells = [d'] := hcell.resolve_left hbf
              have hlt := (List.getElem?_eq_some_iff.1 hd').1
              intro j
              first
                | (intro hj
                   rw [hc1] at hj
                   simp only [List.length_singleton] at hj
                   have : j = 0 := by omega
                   subst this
                   first | (rw [Nat.add_assoc]; exact hv _ hlt) | exact h1 _ hlt)
                | (intro z hz
                   rw [hc1] at hz
                   cases j with
                   | zero => cases hz; exact hh _ _ hd'
                   | succ j => simp at hz)
        · exact h.elim
      · exact h.elim
    · exact h.elim
  · exact h.elim
end Go.Proofs.Ytljohhinokaklaa.Am
