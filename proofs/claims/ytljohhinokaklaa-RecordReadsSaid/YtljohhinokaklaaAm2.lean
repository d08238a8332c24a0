/- The abstract machine, part 2: more operations that only make a value: comparisons, conversions, lengths, places, loads, cuts. -/
import Derived.Test.YtljohhinokaklaaAm1
import Derived.Laws.Pointers
import Derived.Laws.Small
import Derived.Laws.StructEq
set_option linter.unusedVariables false
set_option linter.unusedSimpArgs false
namespace Go.Proofs.Ytljohhinokaklaa.Am
open Go Go.RowKit

/-- Structs of this type (whole numbers alone, n of them) are compared number by number. -/
def EqS (P : Program) (t : TypeId) (n : Nat) : Prop :=
  ∀ (xs ys : List Int) (w : World) (x y : Operand), xs.length = n → ys.length = n →
    (eqGuard .eql t x y (.agg (xs.map (Value.int .i64)).toArray) (.agg (ys.map (Value.int .i64)).toArray)).run P w = .ok () w ∧
    (eqGuard .neq t x y (.agg (xs.map (Value.int .i64)).toArray) (.agg (ys.map (Value.int .i64)).toArray)).run P w = .ok () w ∧
    (Op.equal t (.agg (xs.map (Value.int .i64)).toArray) (.agg (ys.map (Value.int .i64)).toArray)).run P w = .ok (decide (xs = ys)) w
/-- The whole numbers of cells. -/
def scs : List V → Option (List Int)
  | [] => some []
  | x :: r => match x with
    | .d (.v (.int .i64 n)) => (scs r).map (n :: ·)
    | _ => none
theorem scs_vr {φ : Nat → Option Value} {w : World} {ok : Nat → Prop} : ∀ {l : List V} {xs : List Int} {cs : List Value}, scs l = some xs → cs.length = l.length → (∀ (j : Nat) (x : V) (y : Value), l[j]? = some x → cs[j]? = some y → VR φ w ok x y) → cs = xs.map (Value.int .i64)
  | [], xs, cs, h, hl, _ => by
    simp only [scs, Option.some.injEq] at h
    subst h
    exact List.eq_nil_of_length_eq_zero (by simpa using hl)
  | x :: r, xs, cs, h, hl, hv => by
    simp only [scs] at h
    split at h
    · rename_i n
      obtain ⟨ys, hys, rfl⟩ := Option.map_eq_some_iff.1 h
      match cs, hl with
      | c :: cr, hl =>
        have h1 := vr_v (hv 0 _ c rfl rfl)
        have h2 := scs_vr (cs := cr) hys (by simpa using hl) fun j a b ha hb => hv (j + 1) a b (by simpa using ha) (by simpa using hb)
        rw [h1, h2]; rfl
    · cases h
theorem scs_len : ∀ {l : List V} {xs : List Int}, scs l = some xs → xs.length = l.length
  | [], xs, h => by simp only [scs, Option.some.injEq] at h; subst h; rfl
  | x :: r, xs, h => by
    simp only [scs] at h
    split at h
    · obtain ⟨ys, hys, rfl⟩ := Option.map_eq_some_iff.1 h
      simp [scs_len hys]
    · cases h
theorem scs_arr {φ : Nat → Option Value} {w : World} {ok : Nat → Prop} {l : List V} {xs : List Int} {y : Value} (h : scs l = some xs) (hv : VR φ w ok (.agg l) y) : y = .agg (xs.map (Value.int .i64)).toArray := by
  cases hv with
  | agg _ cs hl h1 hh =>
    have := scs_vr (cs := cs.toList) h (by simpa using hl) fun j x y hx hy => hh j x y hx (by simpa using hy)
    rw [← this]
theorem vr_ref {φ : Nat → Option Value} {w : World} {ok : Nat → Prop} {x : D} {y : Value} (h : VR φ w ok (.d (.ref x)) y) : ∃ (b o : Nat) (vals : Nat → Value), y = .pointer (some ⟨b, o, none⟩) ∧ ok b ∧ (∀ j, j < x.cells.length → w.cell? ⟨b, o + j, none⟩ = some (vals j)) ∧
    (∀ j, j < x.cells.length → (vals j).oneCell' = true) ∧ ∀ (j : Nat) (z : D), x.cells[j]? = some z → Rd w ok z (vals j) := by
  cases h with
  | d _ _ h => cases h with
    | ref _ b o vals hok hv h1 h => exact ⟨b, o, vals, rfl, hok, hv, h1, h⟩
theorem vr_ptr {φ : Nat → Option Value} {w : World} {ok : Nat → Prop} {id off : Nat} {y : Value} (h : VR φ w ok (.ptr id off) y) : ∃ b, φ id = some (.pointer (some ⟨b, 0, none⟩)) ∧ y = .pointer (some ⟨b, off, none⟩) := by
  cases h with
  | ptr _ _ b h => exact ⟨b, h, rfl⟩
theorem vr_ep {φ : Nat → Option Value} {w : World} {ok : Nat → Prop} {id sz i c : Nat} {y : Value} (h : VR φ w ok (.ep id sz i c) y) : ∃ b n cap, φ id = some (.slice (some ⟨b, 0, none⟩) n cap) ∧ y = .pointer (some ⟨b, i * sz + c, none⟩) := by
  cases h with
  | ep _ _ _ _ b n cap h => exact ⟨b, n, cap, h, rfl⟩
theorem vr_agg {φ : Nat → Option Value} {w : World} {ok : Nat → Prop} {l : List V} {y : Value} (h : VR φ w ok (.agg l) y) : ∃ cs, y = .agg cs ∧ cs.size = l.length ∧ (∀ (j : Nat) (y : Value), cs[j]? = some y → y.oneCell' = true) ∧
    ∀ (j : Nat) (x : V) (y : Value), l[j]? = some x → cs[j]? = some y → VR φ w ok x y := by
  cases h with
  | agg _ cs hl h1 h => exact ⟨cs, rfl, hl, h1, h⟩
theorem vr_tup {φ : Nat → Option Value} {w : World} {ok : Nat → Prop} {l : List V} {y : Value} (h : VR φ w ok (.tup l) y) : ∃ cs, y = .tuple cs ∧ cs.size = l.length ∧
    ∀ (j : Nat) (x : V) (y : Value), l[j]? = some x → cs[j]? = some y → VR φ w ok x y := by
  cases h with
  | tup _ cs hl h => exact ⟨cs, rfl, hl, h⟩
theorem guard_bind {P : Program} {op : BinOp} {t : TypeId} {x y : Operand} {u v : Value} (h : eqGuard op t x y u v = pure ()) (X : Sem Value) (w : World) : ((eqGuard op t x y u v).bind fun _ => X).run P w = X.run P w := by
  rw [h]; rfl
def isPtrT (P : Program) (t : TypeId) : Bool := match P.underlying t with | some (.pointer _) => true | _ => false
theorem isPtrT_open {P : Program} {t : TypeId} (h : isPtrT P t = true) : P.underlying t = some (.pointer (P.pointee t)) := by
  unfold isPtrT at h
  split at h
  · rename_i e he; simp [Program.pointee, he]
  · cases h
def isBoolT (P : Program) (t : TypeId) : Bool := match P.underlying t with | some .bool => true | _ => false
theorem isBoolT_open {P : Program} {t : TypeId} (h : isBoolT P t = true) : P.underlying t = some .bool := by
  unfold isBoolT at h
  split at h
  · assumption
  · cases h
/-- A binary operation at two values, by cases; none: not told. -/
def binW (P : Program) (Es : TypeId → Nat → Prop) (op : BinOp) (t : TypeId) (x y : V) (K : Value → Prop) : Prop :=
  match x with
  | .d (.v u) => match y with
    | .d (.v v) => match u with
      | .bool a => match v with
        | .bool b => isBoolT P t = true ∧ (match op with | .eql => K (.bool (a == b)) | .neq => K (.bool (!(a == b))) | _ => False)
        | _ => False
      | _ => match binV op u v with
        | some r => K r
        | none => False
    | _ => False
  | .agg l => match y with
    | .agg m => match scs l with
      | some xs => match scs m with
        | some ys => Es t l.length ∧ l.length = m.length ∧ (match op with | .eql => K (.bool (decide (xs = ys))) | .neq => K (.bool (!(decide (xs = ys)))) | _ => False)
        | none => False
      | none => False
    | _ => False
  | .d (.ref _) => match y with
    | .d (.v (.pointer none)) => isPtrT P t = true ∧ (match op with | .eql => K (.bool false) | .neq => K (.bool true) | _ => False)
    | _ => False
  | .ptr _ _ => match y with
    | .d (.v (.pointer none)) => isPtrT P t = true ∧ (match op with | .eql => K (.bool false) | .neq => K (.bool true) | _ => False)
    | _ => False
  | _ => False
def e_bin (P : Program) (Es : TypeId → Nat → Prop) (op : BinOp) (t : TypeId) (x y : Operand) (o : Oper) (st : St) (K : V → List (Nat × Ob) → Prop) : Prop :=
  dOk o.dst st.nt ∧ binW P Es op t (st.ev x) (st.ev y) fun r => K (.d (.v r)) []
theorem run_binop {P : Program} {o : Oper} {a : Act} {op : BinOp} {t u : TypeId} {x y : Operand} (ho : o.op = .binOp op t x y u) (w : World) :
    (execOp a.eval o).run P w = (((eqGuard op t x y (a.eval x) (a.eval y)).bind fun _ => binOp op t (a.eval x) (a.eval y)).run P w).andThen fun r w => .ok (.value r) w := by
  cases hr : (eqGuard op t x y (a.eval x) (a.eval y)).run P w <;> simp [execOp, ho, Sem.run_bind', hr]
theorem bin_ok {P : Program} {o : Oper} {st : St} {K : Value → Prop} {op : BinOp} {t u : TypeId} {x y : Operand} (ho : o.op = .binOp op t x y u) {r : Value} {w0 : World} {oa : Nat → Prop} {φ : Nat → Option Value} {a : Act} {w : World} (hs : SRp w0 oa φ st a w)
    (h : ((eqGuard op t x y (a.eval x) (a.eval y)).bind fun _ => binOp op t (a.eval x) (a.eval y)).run P w = .ok r w) : ∃ y, (execOp a.eval o).run P w = .ok (.value y) w ∧ VR φ w (okB w0 oa φ (go st.hp) w) (.d (.v r)) y :=
  ⟨r, by rw [run_binop ho, h]; rfl, .d _ _ (.v _)⟩
theorem s_bin {P : Program} {Es : TypeId → Nat → Prop} (hEs : ∀ t n, Es t n → EqS P t n) {op : BinOp} {t u : TypeId} {x y : Operand} {o : Oper} {st : St} {K : St → Prop}
    (ho : o.op = .binOp op t x y u) (h : e_bin P Es op t x y o st fun x ups => K (st.upd o.dst x ups)) : Does P o st K := by
  obtain ⟨hd, h⟩ := h
  unfold binW at h
  split at h
  · rename_i u hx
    split at h
    · rename_i v hy
      have key : ∀ r : Value, (∀ w, ((eqGuard op t x y u v).bind fun _ => binOp op t u v).run P w = .ok r w) → K (st.put o.dst (.d (.v r))) → Does P o st K := by
        intro r hr hk
        refine does_val _ hd (fun w0 oa φ a w hs => ?_) hk
        have e1 := hs.ev x; rw [hx] at e1
        have e2 := hs.ev y; rw [hy] at e2
        exact bin_ok (K := fun _ => True) ho hs (by rw [vr_v e1, vr_v e2]; exact hr w)
      split at h
      · split at h
        · obtain ⟨hu, h⟩ := h
          have hu := isBoolT_open hu
          split at h
          · exact key _ (fun w => by rw [guard_bind (eqGuard_at_bool _ _ _ _ _ _)]; simp only [binOp]; simp [run_equal_bool w t _ _ hu]) h
          · exact key _ (fun w => by rw [guard_bind (eqGuard_at_bool _ _ _ _ _ _)]; simp only [binOp]; simp [run_equal_bool w t _ _ hu]) h
          · exact h.elim
        · exact h.elim
      · split at h
        · rename_i r hr
          exact key r (fun w => binV_run x y hr w) h
        · exact h.elim
    · exact h.elim
  · rename_i l hx
    split at h
    · rename_i m hy
      split at h
      · rename_i xs hxs
        split at h
        · rename_i ys hys
          obtain ⟨hE, hlm, h⟩ := h
          have key : ∀ r : Value, (∀ w, ((eqGuard op t x y (.agg (xs.map (Value.int .i64)).toArray) (.agg (ys.map (Value.int .i64)).toArray)).bind fun _ => binOp op t (.agg (xs.map (Value.int .i64)).toArray) (.agg (ys.map (Value.int .i64)).toArray)).run P w = .ok r w) →
              K (st.put o.dst (.d (.v r))) → Does P o st K := by
            intro r hr hk
            refine does_val _ hd (fun w0 oa φ a w hs => ?_) hk
            have e1 := hs.ev x; rw [hx] at e1
            have e2 := hs.ev y; rw [hy] at e2
            exact bin_ok (K := fun _ => True) ho hs (by rw [scs_arr hxs e1, scs_arr hys e2]; exact hr w)
          have hE := fun w => hEs t _ hE xs ys w x y (scs_len hxs) (by rw [scs_len hys, hlm])
          split at h
          · exact key _ (fun w => by rw [Sem.run_bind', (hE w).1]; simp [binOp, (hE w).2.2]) h
          · exact key _ (fun w => by rw [Sem.run_bind', (hE w).2.1]; simp [binOp, (hE w).2.2]) h
          · exact h.elim
        · exact h.elim
      · exact h.elim
    · exact h.elim
  · rename_i d hx
    split at h
    · rename_i hy
      obtain ⟨hu, h⟩ := h
      have hu := isPtrT_open hu
      split at h
      · refine does_val _ hd (fun w0 oa φ a w hs => ?_) h
        have e1 := hs.ev x; rw [hx] at e1
        have e2 := hs.ev y; rw [hy] at e2
        obtain ⟨b, o', vals, e1, _⟩ := vr_ref e1
        exact bin_ok (K := fun _ => True) ho hs (by rw [e1, vr_v e2, guard_bind (eqGuard_at_pointer _ _ _ _ _ _), run_eql_pointer_nil w t _ hu]; rfl)
      · refine does_val _ hd (fun w0 oa φ a w hs => ?_) h
        have e1 := hs.ev x; rw [hx] at e1
        have e2 := hs.ev y; rw [hy] at e2
        obtain ⟨b, o', vals, e1, _⟩ := vr_ref e1
        exact bin_ok (K := fun _ => True) ho hs (by rw [e1, vr_v e2, guard_bind (eqGuard_at_pointer _ _ _ _ _ _), run_neq_pointer_nil w t _ hu]; rfl)
      · exact h.elim
    · exact h.elim
  · rename_i id off hx
    split at h
    · rename_i hy
      obtain ⟨hu, h⟩ := h
      have hu := isPtrT_open hu
      split at h
      · refine does_val _ hd (fun w0 oa φ a w hs => ?_) h
        have e1 := hs.ev x; rw [hx] at e1
        have e2 := hs.ev y; rw [hy] at e2
        obtain ⟨b, _, e1⟩ := vr_ptr e1
        exact bin_ok (K := fun _ => True) ho hs (by rw [e1, vr_v e2, guard_bind (eqGuard_at_pointer _ _ _ _ _ _), run_eql_pointer_nil w t _ hu]; rfl)
      · refine does_val _ hd (fun w0 oa φ a w hs => ?_) h
        have e1 := hs.ev x; rw [hx] at e1
        have e2 := hs.ev y; rw [hy] at e2
        obtain ⟨b, _, e1⟩ := vr_ptr e1
        exact bin_ok (K := fun _ => True) ho hs (by rw [e1, vr_v e2, guard_bind (eqGuard_at_pointer _ _ _ _ _ _), run_neq_pointer_nil w t _ hu]; rfl)
      · exact h.elim
    · exact h.elim
  · exact h.elim

/-! ### one operand: not, minus, conversions, parts of results, lengths -/
def e_un (op : UnOp) (x : Operand) (o : Oper) (st : St) (K : V → List (Nat × Ob) → Prop) : Prop :=
  dOk o.dst st.nt ∧ match op, st.ev x with
  | .not, .d (.v (.bool b)) => K (.d (.v (.bool (!b)))) []
  | .neg, .d (.v (.int k n)) => K (.d (.v (.int k (k.wrap (0 - n))))) []
  | _, _ => False
theorem s_un {P : Program} {op : UnOp} {t : TypeId} {x : Operand} {o : Oper} {st : St} {K : St → Prop} (ho : o.op = .unOp op t x) (h : e_un op x o st fun x ups => K (st.upd o.dst x ups)) : Does P o st K := by
  obtain ⟨hd, h⟩ := h
  split at h
  · rename_i b hx
    refine does_val _ hd (fun w0 oa φ a w hs => ⟨_, ?_, .d _ _ (.v _)⟩) h
    have e1 := hs.ev x; rw [hx] at e1
    simp [execOp, ho, vr_v e1, Op.unary]
  · rename_i k n hx
    refine does_val _ hd (fun w0 oa φ a w hs => ⟨_, ?_, .d _ _ (.v _)⟩) h
    have e1 := hs.ev x; rw [hx] at e1
    simp [execOp, ho, vr_v e1, Op.unary, Op.intArith]
  · exact h.elim
def e_conv (P : Program) (src dst : TypeId) (x : Operand) (o : Oper) (st : St) (K : V → List (Nat × Ob) → Prop) : Prop :=
  dOk o.dst st.nt ∧ (P.underlying src).isSome = true ∧ match ik P dst, st.ev x with
  | some k, .d (.v (.int _ n)) => K (.d (.v (.int k (k.wrap n)))) []
  | _, _ => False
theorem s_conv {P : Program} {src dst : TypeId} {x : Operand} {o : Oper} {st : St} {K : St → Prop} (ho : o.op = .convert src dst x) (h : e_conv P src dst x o st fun x ups => K (st.upd o.dst x ups)) : Does P o st K := by
  obtain ⟨hd, hsrc, h⟩ := h
  split at h
  · rename_i k k0 n hk hx
    refine does_val _ hd (fun w0 oa φ a w hs => ⟨_, ?_, .d _ _ (.v _)⟩) h
    have e1 := hs.ev x; rw [hx] at e1
    have hk := ik_open hk
    obtain ⟨ds, hds⟩ := Option.isSome_iff_exists.1 hsrc
    simp [execOp, ho, vr_v e1, convert, run_underlying hds, run_underlying hk, Conv.intToInt]
  · exact h.elim
def e_extract (x : Operand) (i : Nat) (o : Oper) (st : St) (K : V → List (Nat × Ob) → Prop) : Prop :=
  dOk o.dst st.nt ∧ match st.ev x with
  | .tup l => match l[i]? with
    | some y => K y []
    | none => False
  | _ => False
theorem s_extract {P : Program} {x : Operand} {i : Nat} {o : Oper} {st : St} {K : St → Prop} (ho : o.op = .extract x i) (h : e_extract x i o st fun x ups => K (st.upd o.dst x ups)) : Does P o st K := by
  obtain ⟨hd, h⟩ := h
  split at h
  · rename_i l hx
    split at h
    · rename_i y hy
      refine does_run fun w0 oa φ a w hs => ?_
      have e1 := hs.ev x; rw [hx] at e1
      obtain ⟨cs, e1, hl, hh⟩ := vr_tup e1
      obtain ⟨z, hz⟩ : ∃ z, cs[i]? = some z := ⟨cs[i]'(by rw [hl]; exact (List.getElem?_eq_some_iff.1 hy).1), by simp⟩
      refine ⟨z, w, _, ?_, h, (hs.put _ hd (hh i y z hy hz)).sr⟩
      simp [execOp, ho, e1, Instr.extract, hz]
    · exact h.elim
  · exact h.elim

/-! ### what a value reads as -/
/-- A cell as what is never written again. -/
def toD1 (hp : List (Nat × Ob)) : V → Option D
  | .d x => match x with
    | .agg _ => none
    | x => some x
  | .nil => some (.list [])
  | .sl id sz off len _ => match go hp id with
    | some (.row _ sz' l) => if sz = sz' ∧ off + len ≤ l.length then some (.list ((l.drop off).take len)) else none
    | _ => none
  | _ => none
/-- A slice's elements. -/
def elems (hp : List (Nat × Ob)) : V → Option (List D)
  | .d (.list l) => some l
  | .nil => some []
  | .sl id sz off len _ => match go hp id with
    | some (.row _ sz' l) => if sz = sz' ∧ off + len ≤ l.length then some ((l.drop off).take len) else none
    | _ => none
  | _ => none
def toDs (hp : List (Nat × Ob)) : List V → Option (List D)
  | [] => some []
  | x :: r => match toD1 hp x with
    | some d => (toDs hp r).map (d :: ·)
    | none => none
def toD (hp : List (Nat × Ob)) : V → Option D
  | .agg l => (toDs hp l).map .agg
  | x => toD1 hp x
/-- No place of the call's own in it. -/
def pu1 : V → Bool
  | .d _ | .nil => true
  | _ => false
def pu : V → Bool
  | .agg l => l.all pu1
  | x => pu1 x
theorem row_slice {w : World} {ok : Nat → Prop} {base e sz : Nat} {u : Value} {l : List D} {cs : List Value} (hsz : 0 < sz) (ho : w.ownsRow base e sz u l.length cs) (hr : Rw w ok sz l cs) (ok' : Nat → Prop) (hok : ∀ b, ok b → ok' b) (hb : ∀ b, blk u = some b → ok' b)
    {off len : Nat} (hle : off + len ≤ l.length) {A : Option Addr} {c : Nat} (hc : len ≤ c) (ha : len = 0 ∨ ∃ b n cap, u = .slice (some ⟨b, 0, none⟩) n cap ∧ A = some ⟨b, off * sz, none⟩) : Rd w ok' (.list ((l.drop off).take len)) (.slice A len c) := by
  have hlen : ((l.drop off).take len).length = len := by rw [List.length_take, List.length_drop]; omega
  by_cases h0 : len = 0
  · subst h0
    simp only [List.take_zero]
    exact .nil A c
  · rcases ha with ha | ⟨b, n, cap, rfl, rfl⟩
    · exact absurd ha h0
    · have hcell := ho.cells (g := b) rfl
      have hcl : cs.length = l.length * sz := hr.1
      have hlt : ∀ j, j < len * sz → off * sz + j < cs.length := by
        intro j hj
        rw [hcl]
        calc off * sz + j < off * sz + len * sz := by omega
          _ = (off + len) * sz := by rw [Nat.add_mul]
          _ ≤ l.length * sz := Nat.mul_le_mul_right _ hle
      have hget : ∀ j, j < len * sz → cs[off * sz + j]? = some (cs.getD (off * sz + j) undef) := by
        intro j hj
        simp [List.getD_eq_getElem?_getD, hlt j hj]
      have := Rd.list (w := w) (ok := ok') ((l.drop off).take len) sz b (off * sz) c (fun j => cs.getD (off * sz + j) undef) (by rw [hlen]; exact hc) (hb b rfl) hsz
        (fun d hd => hr.2.2.1 d (List.mem_of_mem_drop (List.mem_of_mem_take hd)))
        (fun j hj => by
          rw [hlen] at hj
          have := hcell (off * sz + j) _ (hget j hj)
          rwa [Addr.add_lit, Nat.zero_add] at this)
        (fun j hj => by rw [hlen] at hj; exact hr.2.1 _ (List.mem_of_getElem? (hget j hj)))
        (fun i j d x hd hx => by
          have hi : i < len := by
            have := (List.getElem?_eq_some_iff.1 hd).1
            rw [hlen] at this; exact this
          have hj : j < sz := by
            have := hr.2.2.1 d (List.mem_of_mem_drop (List.mem_of_mem_take (List.mem_of_getElem? hd)))
            rw [← this]; exact (List.getElem?_eq_some_iff.1 hx).1
          have hd' : l[off + i]? = some d := by
            rw [List.getElem?_take, if_pos hi, List.getElem?_drop] at hd
            exact hd
          have hj2 : i * sz + j < len * sz := by
            calc i * sz + j < i * sz + sz := by omega
              _ = (i + 1) * sz := by rw [Nat.add_mul, Nat.one_mul]
              _ ≤ len * sz := Nat.mul_le_mul_right _ hi
          have e : off * sz + (i * sz + j) = (off + i) * sz + j := by rw [Nat.add_mul, Nat.add_assoc]
          refine (hr.2.2.2 (off + i) j d x _ hd' hx ?_).mono (fun _ _ => rfl) hok
          rw [← e]; exact hget _ hj2)
      rw [hlen] at this
      exact this
theorem blk_own (u : Value) : ∀ b, blk u = some b → u.ownBlock = some b ∨ ∃ a, u = .pointer (some a) := by
  intro b h
  unfold blk at h
  split at h
  · exact .inl h
  · exact .inr ⟨_, rfl⟩
  · cases h
theorem toD1_sl {hp : List (Nat × Ob)} {id sz off len : Nat} {full : Bool} {d : D} (h : toD1 hp (.sl id sz off len full) = some d) : ∃ e l, go hp id = some (.row e sz l) ∧ off + len ≤ l.length ∧ d = .list ((l.drop off).take len) := by
  simp only [toD1] at h
  split at h
  · rename_i e sz' l hg
    split at h
    · rename_i hc
      obtain ⟨rfl, hc⟩ := hc
      cases h
      exact ⟨e, l, hg, hc, rfl⟩
    · cases h
  · cases h
theorem toD1_rd {w0 w : World} {oa : Nat → Prop} {φ : Nat → Option Value} {hp : List (Nat × Ob)} (hr : HR w0 oa φ (go hp) w) {x : V} {y : Value} (hv : VR φ w (okB w0 oa φ (go hp) w) x y) {d : D} (h : toD1 hp x = some d) :
    Rd w (fun b => b < w.heap.size) d y ∧ (pu1 x = true → Rd w (okB w0 oa φ (go hp) w) d y) := by
  have hok : ∀ b, okB w0 oa φ (go hp) w b → b < w.heap.size := fun b hb => okB_lt hr.below.size hb
  cases x with
  | d x =>
    cases x with
    | agg l => simp [toD1] at h
    | v x => simp only [toD1, Option.some.injEq] at h; subst h; cases hv with | d _ _ hv => exact ⟨hv.mono (fun _ _ => rfl) hok, fun _ => hv⟩
    | list x => simp only [toD1, Option.some.injEq] at h; subst h; cases hv with | d _ _ hv => exact ⟨hv.mono (fun _ _ => rfl) hok, fun _ => hv⟩
    | ref x => simp only [toD1, Option.some.injEq] at h; subst h; cases hv with | d _ _ hv => exact ⟨hv.mono (fun _ _ => rfl) hok, fun _ => hv⟩
  | nil => simp only [toD1, Option.some.injEq] at h; subst h; cases hv; exact ⟨.nil _ _, fun _ => .nil _ _⟩
  | sl id sz off len full =>
    obtain ⟨e, l, hg, hle, rfl⟩ := toD1_sl h
    obtain ⟨u, cs, hu, hsz, ho, hrw⟩ := hr.obj id _ hg
    refine ⟨?_, fun h => by simp [pu1] at h⟩
    cases hv with
    | sl _ _ _ _ _ u' A c hid hc hf ha =>
      obtain rfl : u = u' := Option.some.inj (hu.symm.trans hid)
      refine row_slice hsz ho hrw _ hok ?_ hle hc ha
      intro b hb
      rcases blk_own u b hb with h1 | ⟨a, rfl⟩
      · exact (ho.lt b h1).2
      · rcases ho.2 with ⟨h2, _⟩ | ⟨_, _, _, h2, _⟩ <;> simp at h2
  | _ => simp [toD1] at h

end Go.Proofs.Ytljohhinokaklaa.Am
