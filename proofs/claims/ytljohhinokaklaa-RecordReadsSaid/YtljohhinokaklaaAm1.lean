/- The abstract machine, part 1: operands, operations that only make a value. -/
import Derived.Test.YtljohhinokaklaaAm0
set_option linter.unusedVariables false
set_option linter.unusedSimpArgs false
namespace Go.Proofs.Ytljohhinokaklaa.Am
open Go Go.RowKit

structure SRp (w0 : World) (oa : Nat → Prop) (φ : Nat → Option Value) (st : St) (a : Act) (w : World) : Prop where
  hr : HR w0 oa φ (go st.hp) w
  sz : a.tmps.size = st.nt
  df : a.defers = []
  tm : ∀ k, VR φ w (okB w0 oa φ (go st.hp) w) (gt st.tm k) (a.tmps.getD k undef)
theorem SR.open {w0 : World} {oa : Nat → Prop} {st : St} {a : Act} {w : World} (h : SR w0 oa st a w) : ∃ φ, SRp w0 oa φ st a w := let ⟨φ, h1, h2, h3, h4⟩ := h; ⟨φ, h1, h2, h3, h4⟩
theorem SRp.sr {w0 : World} {oa : Nat → Prop} {φ : Nat → Option Value} {st : St} {a : Act} {w : World} (h : SRp w0 oa φ st a w) : SR w0 oa st a w := ⟨φ, h.hr, h.sz, h.df, h.tm⟩
def St.put (st : St) (d : Option Tmp) (x : V) : St :=
  match d with
  | some k => { st with tm := (k, x) :: st.tm }
  | none => st
/-- A new value in a slot, new things. -/
def St.upd (st : St) (d : Option Tmp) (x : V) (ups : List (Nat × Ob)) : St := St.put { st with hp := ups ++ st.hp } d x
def dOk (d : Option Tmp) (nt : Nat) : Prop := match d with | some k => k < nt | none => True
theorem getD_set (a : Array Value) (k j : Nat) (y : Value) (hk : k < a.size) : (a.setIfInBounds k y).getD j undef = if j = k then y else a.getD j undef := by
  simp only [Array.getD_eq_getD_getElem?]
  by_cases h : j = k
  · subst h; simp [hk]
  · rw [if_neg h, Array.getElem?_setIfInBounds_ne (Ne.symm h)]
theorem SRp.put {w0 : World} {oa : Nat → Prop} {φ : Nat → Option Value} {st : St} {a : Act} {w : World} (h : SRp w0 oa φ st a w) (d : Option Tmp) (hd : dOk d st.nt) {x : V} {y : Value}
    (hv : VR φ w (okB w0 oa φ (go st.hp) w) x y) : SRp w0 oa φ (st.put d x) (a.put d y) w := by
  cases d with
  | none => exact h
  | some k =>
    refine ⟨h.hr, by simpa [Act.put, St.put] using h.sz, h.df, fun j => ?_⟩
    show VR _ _ _ (gt ((k, x) :: st.tm) j) ((a.tmps.setIfInBounds k y).getD j undef)
    rw [getD_set _ _ _ _ (by rw [h.sz]; exact hd)]
    simp only [gt]
    split
    · exact hv
    · exact h.tm j
/-- A new heap part under the same activation. -/
theorem SRp.heap {w0 : World} {oa : Nat → Prop} {φ φ' : Nat → Option Value} {st : St} {a : Act} {w w' : World} (h : SRp w0 oa φ st a w) {hp' : List (Nat × Ob)} (hφ : ∀ id v, φ id = some v → φ' id = some v)
    (hn : HR w0 oa φ' (go hp') w' ∧ (∀ b, okB w0 oa φ (go st.hp) w b → okB w0 oa φ' (go hp') w' b ∧ w'.heap[b]? = w.heap[b]?)) : SRp w0 oa φ' { st with hp := hp' } a w' :=
  ⟨hn.1, h.sz, h.df, fun k => (h.tm k).mono hφ (fun b hb => (hn.2 b hb).2) (fun b hb => (hn.2 b hb).1)⟩

/-! ### operands -/
def cV0 : Value → V
  | .slice none 0 0 => .nil
  | x => .d (.v x)
def cV : Value → V
  | .agg cs => if cs.all (·.oneCell') then .agg (cs.toList.map cV0) else .junk
  | x => cV0 x
def St.ev (st : St) : Operand → V
  | .tmp t => gt st.tm t
  | .const v => cV v
  | _ => .junk
theorem vr_c0 {φ : Nat → Option Value} {w : World} {ok : Nat → Prop} (x : Value) : VR φ w ok (cV0 x) x := by
  unfold cV0
  split
  · exact .nil
  · exact .d _ _ (.v x)
theorem vr_c {φ : Nat → Option Value} {w : World} {ok : Nat → Prop} (x : Value) : VR φ w ok (cV x) x := by
  unfold cV
  split
  · rename_i cs
    split
    · rename_i hall
      refine .agg _ _ (by simp) (fun j y hy => ?_) (fun j x y hx hy => ?_)
      · exact Array.all_eq_true_iff_forall_mem.1 hall y (Array.mem_of_getElem? hy)
      · have : (cs.toList.map cV0)[j]? = some (cV0 y) := by simp [hy]
        rw [this] at hx; cases hx; exact vr_c0 y
    · exact .junk _
  · exact vr_c0 _
theorem SRp.ev {w0 : World} {oa : Nat → Prop} {φ : Nat → Option Value} {st : St} {a : Act} {w : World} (h : SRp w0 oa φ st a w) (x : Operand) : VR φ w (okB w0 oa φ (go st.hp) w) (st.ev x) (a.eval x) := by
  cases x with
  | tmp t => exact h.tm t
  | const v => exact vr_c v
  | global g => exact .junk _
  | func f => exact .junk _

/-! ### what an operation does -/
def Does (P : Program) (o : Oper) (st : St) (K : St → Prop) : Prop :=
  ∀ w0 oa φ a w, SRp w0 oa φ st a w → ∀ (next : Act → World → Prop) (Q : Exit → Act → World → Prop), (∀ st' a' w', K st' → SR w0 oa st' a' w' → next a' w') → o.wp P a w next Q
theorem does_run {P : Program} {o : Oper} {st : St} {K : St → Prop} (h : ∀ w0 oa φ a w, SRp w0 oa φ st a w → ∃ y w' st', (execOp a.eval o).run P w = .ok (.value y) w' ∧ K st' ∧ SR w0 oa st' (a.put o.dst y) w') : Does P o st K := by
  intro w0 oa φ a w hs next Q hn
  obtain ⟨y, w', st', hr, hk, hs'⟩ := h w0 oa φ a w hs
  unfold Oper.wp
  rw [hr]
  exact hn st' _ _ hk hs'
theorem does_skip {P : Program} {o : Oper} {st : St} {K : St → Prop} (h : ∀ w0 oa φ a w, SRp w0 oa φ st a w → ∃ w' st', (execOp a.eval o).run P w = .ok .skip w' ∧ K st' ∧ SR w0 oa st' (a.put o.dst undef) w') : Does P o st K := by
  intro w0 oa φ a w hs next Q hn
  obtain ⟨w', st', hr, hk, hs'⟩ := h w0 oa φ a w hs
  unfold Oper.wp
  rw [hr]
  exact hn st' _ _ hk hs'
/-- An operation that only makes a value. -/
theorem does_val {P : Program} {o : Oper} {st : St} {K : St → Prop} (x : V) (hd : dOk o.dst st.nt)
    (h : ∀ w0 oa φ a w, SRp w0 oa φ st a w → ∃ y, (execOp a.eval o).run P w = .ok (.value y) w ∧ VR φ w (okB w0 oa φ (go st.hp) w) x y) (hk : K (st.put o.dst x)) : Does P o st K :=
  does_run fun w0 oa φ a w hs => let ⟨y, hr, hv⟩ := h w0 oa φ a w hs; ⟨y, w, _, hr, hk, (hs.put _ hd hv).sr⟩

/-! ### types, as the machine asks them -/
def isAggD : TypeDesc → Bool
  | .struct _ | .array _ _ => true
  | _ => false
/-- Is it a struct or an array; of how many cells is it. -/
def tk (P : Program) (t : TypeId) : Option (Bool × Nat) := (P.underlying t).bind fun d => (P.info? t).map fun i => (isAggD d, i.size)
/-- A slice's element: its type, its cells, its bytes. -/
def el (P : Program) (t : TypeId) : Option (TypeId × Nat × Nat) :=
  match P.underlying t with
  | some (.slice e) => (P.info? e).map fun i => (e, i.size, i.bytes)
  | _ => none
/-- An array's: how many, the element's cells. -/
def ar (P : Program) (t : TypeId) : Option (Nat × Nat) :=
  match P.underlying t with
  | some (.array n e) => (P.info? e).map fun i => (n, i.size)
  | _ => none
/-- A type's zero, by cells. -/
def zc (P : Program) (t : TypeId) : Option (List Value) := (P.info? t).bind fun i => i.zero.map fun z => z.cells.toList
/-- A struct's field: where, and its type. -/
def fo (P : Program) (s : TypeId) (f : Nat) : Option (Nat × TypeId) :=
  match P.underlying s with
  | some (.struct fs) => (fs[f]?).map fun x => (x.offset, x.type)
  | _ => none
def ik (P : Program) (t : TypeId) : Option IntKind :=
  match P.underlying t with
  | some (.int k) => some k
  | _ => none
theorem run_size {P : Program} {t : TypeId} {i : TypeInfo} (h : P.info? t = some i) (w : World) : (sizeOf t).run P w = .ok i.size w := by simp [sizeOf, typeInfo, h]
theorem run_isAgg {P : Program} {t : TypeId} {d : TypeDesc} (h : P.underlying t = some d) (w : World) : (isAgg t).run P w = .ok (isAggD d) w := by
  unfold isAgg
  rw [Sem.run_bind, run_underlying h]
  cases d <;> rfl
theorem tk_open {P : Program} {t : TypeId} {b : Bool} {n : Nat} (h : tk P t = some (b, n)) : ∃ d i, P.underlying t = some d ∧ P.info? t = some i ∧ isAggD d = b ∧ i.size = n := by
  unfold tk at h
  obtain ⟨d, hd, h⟩ := Option.bind_eq_some_iff.1 h
  obtain ⟨i, hi, h⟩ := Option.map_eq_some_iff.1 h
  cases h
  exact ⟨d, i, hd, hi, rfl, rfl⟩
theorem el_open {P : Program} {t e : TypeId} {sz by' : Nat} (h : el P t = some (e, sz, by')) : ∃ i, P.underlying t = some (.slice e) ∧ P.info? e = some i ∧ i.size = sz ∧ i.bytes = by' := by
  unfold el at h
  split at h
  · rename_i e' he
    obtain ⟨i, hi, h⟩ := Option.map_eq_some_iff.1 h
    cases h
    exact ⟨i, he, hi, rfl, rfl⟩
  · cases h
theorem ar_open {P : Program} {t : TypeId} {n sz : Nat} (h : ar P t = some (n, sz)) : ∃ e i, P.underlying t = some (.array n e) ∧ P.info? e = some i ∧ i.size = sz := by
  unfold ar at h
  split at h
  · rename_i n' e' he
    obtain ⟨i, hi, h⟩ := Option.map_eq_some_iff.1 h
    cases h
    exact ⟨e', i, he, hi, rfl⟩
  · cases h
theorem zc_open {P : Program} {t : TypeId} {z : List Value} (h : zc P t = some z) : ∃ i v, P.info? t = some i ∧ i.zero = some v ∧ v.cells.toList = z := by
  unfold zc at h
  obtain ⟨i, hi, h⟩ := Option.bind_eq_some_iff.1 h
  obtain ⟨v, hv, h⟩ := Option.map_eq_some_iff.1 h
  exact ⟨i, v, hi, hv, h⟩
theorem fo_open {P : Program} {s : TypeId} {f off : Nat} {t : TypeId} (h : fo P s f = some (off, t)) : ∃ fs fl, P.underlying s = some (.struct fs) ∧ fs[f]? = some fl ∧ fl.offset = off ∧ fl.type = t := by
  unfold fo at h
  split at h
  · rename_i fs he
    obtain ⟨fl, hi, h⟩ := Option.map_eq_some_iff.1 h
    cases h
    exact ⟨fs, fl, he, hi, rfl, rfl⟩
  · cases h
theorem ik_open {P : Program} {t : TypeId} {k : IntKind} (h : ik P t = some k) : P.underlying t = some (.int k) := by
  unfold ik at h
  split at h
  · cases h; assumption
  · cases h

/-! ### move, assign, pick -/
def e_move (x : Operand) (o : Oper) (st : St) (K : V → List (Nat × Ob) → Prop) : Prop := dOk o.dst st.nt ∧ K (st.ev x) []
theorem s_move {P : Program} {x : Operand} {o : Oper} {st : St} {K : St → Prop} (ho : o.op = .move x) (h : e_move x o st fun x ups => K (st.upd o.dst x ups)) : Does P o st K :=
  does_val _ h.1 (fun w0 oa φ a w hs => ⟨a.eval x, by simp [execOp, ho], hs.ev x⟩) h.2
theorem s_assign {P : Program} {x : Operand} {o : Oper} {st : St} {K : St → Prop} (ho : o.op = .assign x) (h : e_move x o st fun x ups => K (st.upd o.dst x ups)) : Does P o st K :=
  does_val _ h.1 (fun w0 oa φ a w hs => ⟨a.eval x, by simp [execOp, ho], hs.ev x⟩) h.2
theorem vr_v {φ : Nat → Option Value} {w : World} {ok : Nat → Prop} {x y : Value} (h : VR φ w ok (.d (.v x)) y) : y = x := by cases h with | d _ _ h => cases h; rfl
def e_pick (c x y : Operand) (o : Oper) (st : St) (K : V → List (Nat × Ob) → Prop) : Prop :=
  dOk o.dst st.nt ∧ match st.ev c with
  | .d (.v (.bool b)) => (b = true → K (st.ev x) []) ∧ (b = false → K (st.ev y) [])
  | _ => False
theorem s_pick {P : Program} {c x y : Operand} {o : Oper} {st : St} {K : St → Prop} (ho : o.op = .pick c x y) (h : e_pick c x y o st fun x ups => K (st.upd o.dst x ups)) : Does P o st K := by
  obtain ⟨hd, h⟩ := h
  split at h
  · rename_i b hb
    cases b with
    | true =>
      refine does_val (st.ev x) hd (fun w0 oa φ a w hs => ⟨a.eval x, ?_, hs.ev x⟩) (h.1 rfl)
      have hc := hs.ev c
      rw [hb] at hc
      simp [execOp, ho, vr_v hc, asBool]
    | false =>
      refine does_val (st.ev y) hd (fun w0 oa φ a w hs => ⟨a.eval y, ?_, hs.ev y⟩) (h.2 rfl)
      have hc := hs.ev c
      rw [hb] at hc
      simp [execOp, ho, vr_v hc, asBool]
  · exact h.elim

/-! ### arithmetic -/
def binV (op : BinOp) : Value → Value → Option Value
  | .int k a, .int k' b =>
    match op with
    | .shl => if 0 ≤ b then some (.int k (k.wrap (a * 2 ^ (min b.toNat k.bits)))) else none
    | .shr => if 0 ≤ b then some (.int k (a.fdiv (2 ^ (min b.toNat k.bits)))) else none
    | .add => if k = k' then some (.int k (k.wrap (a + b))) else none
    | .sub => if k = k' then some (.int k (k.wrap (a - b))) else none
    | .mul => if k = k' then some (.int k (k.wrap (a * b))) else none
    | .quo => if k = k' ∧ b ≠ 0 then some (.int k (k.wrap (a.tdiv b))) else none
    | .rem => if k = k' ∧ b ≠ 0 then some (.int k (a.tmod b)) else none
    | .and => if k = k' then some (.int k (bits .and k a b)) else none
    | .or => if k = k' then some (.int k (bits .or k a b)) else none
    | .xor => if k = k' then some (.int k (bits .xor k a b)) else none
    | .andNot => if k = k' then some (.int k (bits .andNot k a b)) else none
    | .eql => if k = k' then some (.bool (decide (a = b))) else none
    | .neq => if k = k' then some (.bool (decide (a ≠ b))) else none
    | .lss => if k = k' then some (.bool (decide (a < b))) else none
    | .leq => if k = k' then some (.bool (decide (a ≤ b))) else none
    | .gtr => if k = k' then some (.bool (decide (b < a))) else none
    | .geq => if k = k' then some (.bool (decide (b ≤ a))) else none
  | .string a, .string b =>
    match op with
    | .eql => some (.bool (a.toList == b.toList))
    | .neq => some (.bool (!(a.toList == b.toList)))
    | _ => none
  | _, _ => none
theorem binV_run {P : Program} {op : BinOp} {t : TypeId} {u v r : Value} (x y : Operand) (h : binV op u v = some r) (w : World) : ((eqGuard op t x y u v).bind fun _ => binOp op t u v).run P w = .ok r w := by
  cases u <;> cases v <;> try (simp [binV] at h; done)
  · rename_i k a k' b
    have hg : eqGuard op t x y (.int k a) (.int k' b) = pure () := eqGuard_at_int op t x y _ k a
    rw [hg]
    show (binOp op t (.int k a) (.int k' b)).run P w = _
    cases op <;> simp only [binV] at h
    case shl => split at h <;> simp at h; subst h; rename_i hb; simp [binOp, Op.shift, show ¬ b < 0 by omega]
    case shr => split at h <;> simp at h; subst h; rename_i hb; simp [binOp, Op.shift, show ¬ b < 0 by omega]
    all_goals
      split at h
      case isFalse => cases h
      rename_i hk
      first | subst hk | (obtain ⟨hk, hb⟩ := hk; subst hk)
      simp only [Option.some.injEq] at h
      subst h
      first
        | (simp [binOp, Op.intArith]; done)
        | (simp [binOp, Op.intDiv, hb]; done)
        | (simp [binOp, intBits_and, intBits_or, intBits_xor, intBits_andNot]; done)
        | (simp [binOp, Op.intCmp]; done)
        | (simp [binOp, Op.intCmp, bne, BEq.beq]; done)
  · rename_i a b
    have hg : eqGuard op t x y (.string a) (.string b) = pure () := eqGuard_at_string op t x y _ a
    rw [hg]
    show (binOp op t (.string a) (.string b)).run P w = _
    cases op <;> simp [binV] at h <;> subst h <;> simp [binOp, Op.stringOp]
end Go.Proofs.Ytljohhinokaklaa.Am
