/- The abstract machine, part 5: what makes memory, and what writes it. -/
import Derived.Test.YtljohhinokaklaaAm4
import Derived.Deep.AppendLies
set_option linter.unusedVariables false
set_option linter.unusedSimpArgs false
namespace Go.Proofs.Ytljohhinokaklaa.Am
open Go Go.RowKit

def upd (φ : Nat → Option Value) (n : Nat) (v : Value) : Nat → Option Value := fun k => if k = n then some v else φ k
theorem below_own {w : World} {base e sz n : Nat} {v : Value} {cs : List Value} (h : w.ownsRow base e sz v n cs) (b : Nat) (hb : blk v = some b) : base ≤ b ∧ b < w.heap.size := by
  rcases h.2 with ⟨rfl, _⟩ | ⟨g, cap, cur, rfl, hg, hh, _⟩
  · simp [blk] at hb
  · simp only [blk, Option.some.injEq] at hb
    subst hb
    exact ⟨hg, (Array.getElem?_eq_some_iff.1 hh).1⟩
theorem own_lower {w : World} {base base' e sz n : Nat} {v : Value} {cs : List Value} (h : w.ownsRow base e sz v n cs) (hb : base' ≤ base) : w.ownsRow base' e sz v n cs := by
  refine ⟨h.1, ?_⟩
  rcases h.2 with h2 | ⟨g, cap, cur, hv, hg, r⟩
  · exact .inl h2
  · exact .inr ⟨g, cap, cur, hv, by omega, r⟩
theorem HR.blk_lt {w0 w : World} {oa : Nat → Prop} {φ : Nat → Option Value} {hp : Nat → Option Ob} (h : HR w0 oa φ hp w) {id : Nat} {o : Ob} {v : Value} {b : Nat} (ho : hp id = some o) (hn : o ≠ .dead) (hv : φ id = some v) (hb : blk v = some b) : w0.heap.size ≤ b ∧ b < w.heap.size := by
  have := h.obj id o ho
  cases o with
  | row e sz l =>
    obtain ⟨u, cs, hu, _, hw, _⟩ := this
    obtain rfl : u = v := Option.some.inj (hu.symm.trans hv)
    exact below_own hw b hb
  | box l =>
    obtain ⟨b', t, cs, hu, hb', hh, _⟩ := this
    obtain rfl : _ = v := Option.some.inj (hu.symm.trans hv)
    simp only [blk, Option.some.injEq] at hb
    subst hb
    exact ⟨hb', (Array.getElem?_eq_some_iff.1 hh).1⟩
  | dead => exact absurd rfl hn
/-- A new thing n, whose memory is new; nothing else is touched. -/
theorem HR.new {w0 w w' : World} {oa : Nat → Prop} {φ : Nat → Option Value} {hp : List (Nat × Ob)} (h : HR w0 oa φ (go hp) w) (n : Nat) (hn : go hp n = none) (o : Ob) (u : Value)
    (hsz : w.heap.size ≤ w'.heap.size) (hbelow : Below w0.heap.size w0 w') (hkeep : ∀ b, b < w.heap.size → w'.heap[b]? = w.heap[b]?) (hnew : ∀ b, blk u = some b → w.heap.size ≤ b)
    (hobj : ∀ ok : Nat → Prop, (∀ b, okB w0 oa φ (go hp) w b → ok b) → OR (upd φ n u) w' ok w0.heap.size n o) :
    HR w0 oa (upd φ n u) (go (so hp n o)) w' ∧ (∀ b, okB w0 oa φ (go hp) w b → okB w0 oa (upd φ n u) (go (so hp n o)) w' b ∧ w'.heap[b]? = w.heap[b]?) := by
  have hφn : φ n = none := h.fresh n hn
  have hφ : ∀ id v, φ id = some v → upd φ n u id = some v := by
    intro id v hv
    unfold upd
    split
    · rename_i e; subst e; rw [hφn] at hv; cases hv
    · exact hv
  have hold : ∀ id o', go (so hp n o) id = some o' → o' ≠ .dead → (go hp id = some o' ∧ ¬ False) ∨ ((∀ v b, upd φ n u id = some v → blk v = some b → w.heap.size ≤ b ∨ ∃ id' o'' v', False ∧ go hp id' = some o'' ∧ o'' ≠ .dead ∧ φ id' = some v' ∧ blk v' = some b) ∧ ¬ (go hp id = some o' ∧ ¬ False)) := by
    intro id o' ho' _
    rw [go_so] at ho'
    split at ho'
    · rename_i e
      subst e
      refine .inr ⟨fun v b hv hb => ?_, fun hc => by rw [hn] at hc; cases hc.1⟩
      simp only [upd, if_true, Option.some.injEq] at hv
      subst hv
      exact .inl (hnew b hb)
    · exact .inl ⟨ho', fun h => h⟩
  have key := HR.step (hp' := go (so hp n o)) (φ' := upd φ n u) (w' := w') h (fun _ => False) hsz hbelow (fun b hb _ => hkeep b hb) hφ ?_ hold h.has
  have hok2 : ∀ b, okB w0 oa φ (go hp) w b → okB w0 oa (upd φ n u) (go (so hp n o)) w' b := by
    intro b hb
    have hlt := okB_lt h.below.size hb
    refine ⟨?_, ?_⟩
    · rcases hb.1 with h1 | h1
      · exact .inl h1
      · exact .inr ⟨h1.1, by omega⟩
    · intro id o' v ho' hne hv he
      rw [go_so] at ho'
      split at ho'
      · rename_i e
        subst e
        simp only [upd, if_true, Option.some.injEq] at hv
        subst hv
        have := hnew b he
        omega
      · rename_i e
        simp only [upd, if_neg e] at hv
        exact hb.2 id o' v ho' hne hv he
  refine key ?_ ?_
  · intro id o' ho' hc
    rw [go_so] at ho'
    split at ho'
    · rename_i e
      subst e
      cases ho'
      exact hobj _ hok2
    · exact absurd ⟨ho', fun h => h⟩ hc
  · intro id id' o1 o2 v v' ho1 ho2 hn1 hn2 hc hne hv hv'
    rw [go_so] at ho1 ho2
    split at ho1
    · rename_i e
      subst e
      rw [if_neg (Ne.symm hne)] at ho2
      simp only [upd, if_true, Option.some.injEq] at hv
      simp only [upd, if_neg (Ne.symm hne)] at hv'
      subst hv
      by_cases hb : blk u = none
      · exact .inl hb
      · refine .inr fun he => ?_
        obtain ⟨b, hb⟩ := Option.ne_none_iff_exists'.1 hb
        have h1 := hnew b hb
        have h2 := (h.blk_lt ho2 hn2 hv' (he ▸ hb)).2
        omega
    · exact absurd ⟨ho1, fun h => h⟩ hc
  · intro id hid
    rw [go_so] at hid
    split at hid
    · cases hid
    · rename_i e
      simp only [upd, if_neg e]
      exact h.fresh id hid
/-- A new box. -/
theorem SRp.newbox {w0 : World} {oa : Nat → Prop} {φ : Nat → Option Value} {st : St} {a : Act} {w : World} (h : SRp w0 oa φ st a w) (n : Nat) (hn : go st.hp n = none) (l : List V) (cs : Array Value) (t : TypeId) (hl : cs.size = l.length)
    (h1 : ∀ (j : Nat) (y : Value), cs[j]? = some y → y.oneCell' = true) (hv : ∀ (j : Nat) (x : V) (y : Value), l[j]? = some x → cs[j]? = some y → VR φ w (okB w0 oa φ (go st.hp) w) x y) :
    ∃ φ', SRp w0 oa φ' { st with hp := so st.hp n (.box l) } a (w.alloc (.cells cs t)) ∧ VR φ' (w.alloc (.cells cs t)) (okB w0 oa φ' (go (so st.hp n (.box l))) (w.alloc (.cells cs t))) (.ptr n 0) (.pointer (some ⟨w.heap.size, 0, none⟩)) := by
  have hφn : φ n = none := h.hr.fresh n hn
  have hφ : ∀ id v, φ id = some v → upd φ n (.pointer (some ⟨w.heap.size, 0, none⟩)) id = some v := by
    intro id v hv
    unfold upd
    split
    · rename_i e; subst e; rw [hφn] at hv; cases hv
    · exact hv
  refine ⟨upd φ n (.pointer (some ⟨w.heap.size, 0, none⟩)), h.heap hφ (h.hr.new n hn (.box l) (.pointer (some ⟨w.heap.size, 0, none⟩)) (by simp) (h.hr.below.alloc h.hr.below.size _) (fun b hb => heap_alloc_old w _ b hb) ?_ ?_), .ptr _ _ _ (by simp [upd])⟩
  · intro b hb
    simp only [blk, Option.some.injEq] at hb
    omega
  · intro ok hok
    exact ⟨w.heap.size, t, cs, by simp [upd], h.hr.below.size, heap_alloc_new w _, hl, h1, fun j x y hx hy => (hv j x y hx hy).mono hφ (fun b hb => heap_alloc_old w _ b (okB_lt h.hr.below.size hb)) hok⟩
/-- A new row. -/
theorem SRp.newrow {w0 : World} {oa : Nat → Prop} {φ : Nat → Option Value} {st : St} {a : Act} {w w' : World} (h : SRp w0 oa φ st a w) (n : Nat) (hn : go st.hp n = none) (e sz : Nat) (l : List D) (u : Value) (cs : List Value) (hsz : 0 < sz)
    (hb : Below w.heap.size w w') (hown : w'.ownsRow w.heap.size e sz u l.length cs) (hr : Rw w' (okB w0 oa φ (go st.hp) w) sz l cs) :
    ∃ φ', SRp w0 oa φ' { st with hp := so st.hp n (.row e sz l) } a w' ∧ VR φ' w' (okB w0 oa φ' (go (so st.hp n (.row e sz l))) w') (.sl n sz 0 l.length true) u := by
  have hφn : φ n = none := h.hr.fresh n hn
  have hφ : ∀ id v, φ id = some v → upd φ n u id = some v := by
    intro id v hv
    unfold upd
    split
    · rename_i e; subst e; rw [hφn] at hv; cases hv
    · exact hv
  refine ⟨upd φ n u, h.heap hφ (h.hr.new n hn (.row e sz l) u hb.size (h.hr.below.trans (hb.mono h.hr.below.size)) (fun b hlt => hb.block b hlt) (fun b hbb => (below_own hown b hbb).1) ?_), ?_⟩
  · intro ok hok
    exact ⟨u, cs, by simp [upd], hsz, own_lower hown h.hr.below.size, hr.mono (fun _ _ => rfl) hok⟩
  · rcases hown.2 with ⟨rfl, h0⟩ | ⟨g, cap, cur, rfl, hg, hh, hnc, _⟩
    · rw [h0]
      exact .sl _ _ _ _ _ (.slice none 0 0) none 0 (by simp [upd]) (Nat.le_refl _) (fun _ => ⟨rfl, rfl⟩) (.inl rfl)
    · exact .sl _ _ _ _ _ (.slice (some ⟨g, 0, none⟩) l.length cap) _ cap (by simp [upd]) hnc (fun _ => ⟨rfl, rfl⟩) (.inr ⟨g, _, cap, rfl, by simp⟩)

/-! ### variables, boxes -/
def cellsV : V → Option (List V)
  | .agg l => some l
  | .tup _ => none
  | .junk => none
  | .d (.agg _) => none
  | x => some [x]
theorem cellsV_vr {φ : Nat → Option Value} {w : World} {ok : Nat → Prop} {x : V} {xs : List V} {y : Value} (h : cellsV x = some xs) (hv : VR φ w ok x y) (hsc : ∀ z, x = .d (.v z) → z.oneCell' = true) : y.cells.size = xs.length ∧ (∀ (j : Nat) (u : Value), y.cells[j]? = some u → u.oneCell' = true) ∧
    ∀ (j : Nat) (z : V) (u : Value), xs[j]? = some z → y.cells[j]? = some u → VR φ w ok z u := by
  have one : ∀ (v : Value), v.oneCell' = true → v.cells = #[v] := by intro v hv; cases v <;> simp [Value.oneCell'] at hv <;> rfl
  have fin : ∀ (x : V) (v : Value), v.oneCell' = true → VR φ w ok x v → v.cells.size = [x].length ∧ (∀ (j : Nat) (u : Value), v.cells[j]? = some u → u.oneCell' = true) ∧ ∀ (j : Nat) (z : V) (u : Value), [x][j]? = some z → v.cells[j]? = some u → VR φ w ok z u := by
    intro x v h1 hv
    rw [one v h1]
    refine ⟨rfl, fun j u hu => ?_, fun j z u hz hu => ?_⟩
    · cases j with
      | zero => simp at hu; subst hu; exact h1
      | succ j => simp at hu
    · cases j with
      | zero => simp at hu hz; subst hu; subst hz; exact hv
      | succ j => simp at hu
  cases x with
  | agg l =>
    simp only [cellsV, Option.some.injEq] at h
    subst h
    obtain ⟨cs, rfl, hl, h1, hh⟩ := vr_agg hv
    exact ⟨hl, h1, hh⟩
  | tup l => simp [cellsV] at h
  | junk => simp [cellsV] at h
  | nil => simp only [cellsV, Option.some.injEq] at h; subst h; cases hv; exact fin _ _ rfl .nil
  | sl id sz off len full => simp only [cellsV, Option.some.injEq] at h; subst h; have hv2 := hv; cases hv; exact fin _ _ rfl hv2
  | ptr id off => simp only [cellsV, Option.some.injEq] at h; subst h; have hv2 := hv; cases hv; exact fin _ _ rfl hv2
  | ep id sz i c => simp only [cellsV, Option.some.injEq] at h; subst h; have hv2 := hv; cases hv; exact fin _ _ rfl hv2
  | d x =>
    cases x with
    | agg l => simp [cellsV] at h
    | v z => simp only [cellsV, Option.some.injEq] at h; subst h; have := vr_v hv; subst this; exact fin _ _ (hsc _ rfl) hv
    | list l => simp only [cellsV, Option.some.injEq] at h; subst h; have hv2 := hv; cases hv with | d _ _ hv => cases hv <;> exact fin _ _ rfl hv2
    | ref z => simp only [cellsV, Option.some.injEq] at h; subst h; have hv2 := hv; cases hv with | d _ _ hv => cases hv; exact fin _ _ rfl hv2
/-- A scalar is of one cell. -/
def one1 : V → Bool
  | .d (.v z) => z.oneCell'
  | _ => true
theorem one1_ok {x : V} (h : one1 x = true) : ∀ z, x = .d (.v z) → z.oneCell' = true := by
  intro z hz; subst hz; exact h
def e_alloc (P : Program) (t : TypeId) (o : Oper) (st : St) (K : V → List (Nat × Ob) → Prop) : Prop :=
  dOk o.dst st.nt ∧ match o.dst with
  | some n => go st.hp n = none ∧ match zc P t with
    | some z => (z.all (·.oneCell') = true) ∧ K (.ptr n 0) [(n, (.box (z.map cV0)))]
    | none => False
  | none => False
theorem s_alloc {P : Program} {t : TypeId} {o : Oper} {st : St} {K : St → Prop} (ho : o.op = .alloc t) (h : e_alloc P t o st fun x ups => K (st.upd o.dst x ups)) : Does P o st K := by
  obtain ⟨hd, h⟩ := h
  split at h
  · rename_i n hdst
    obtain ⟨hn, h⟩ := h
    split at h
    · rename_i z hz
      obtain ⟨h1, h⟩ := h
      obtain ⟨inf, zv, hinf, hzv, rfl⟩ := zc_open hz
      refine does_run fun w0 oa φ a w hs => ?_
      obtain ⟨φ', hs', hv⟩ := hs.newbox n hn (zv.cells.toList.map cV0) zv.cells t (by simp) (fun j y hy => List.all_eq_true.1 h1 y (List.mem_of_getElem? (by simpa using hy)))
        (fun j x y hx hy => by
          have : (zv.cells.toList.map cV0)[j]? = some (cV0 y) := by simp [hy]
          rw [this] at hx; cases hx; exact vr_c0 y)
      refine ⟨_, _, _, ?_, h, (hs'.put o.dst hd hv).sr⟩
      simp [execOp, ho, Instr.alloc, zeroValue, typeInfo, hinf, hzv, newVar, newRow]
    · exact h.elim
  · exact h.elim
def e_box (t : TypeId) (x : Operand) (o : Oper) (st : St) (K : V → List (Nat × Ob) → Prop) : Prop :=
  dOk o.dst st.nt ∧ match o.dst with
  | some n => go st.hp n = none ∧ one1 (st.ev x) = true ∧ match cellsV (st.ev x) with
    | some l => K (.ptr n 0) [(n, (.box l))]
    | none => False
  | none => False
theorem s_box {P : Program} {t : TypeId} {x : Operand} {o : Oper} {st : St} {K : St → Prop} (ho : o.op = .box t x) (h : e_box t x o st fun x ups => K (st.upd o.dst x ups)) : Does P o st K := by
  obtain ⟨hd, h⟩ := h
  split at h
  · rename_i n hdst
    obtain ⟨hn, h1, h⟩ := h
    split at h
    · rename_i l hl
      refine does_run fun w0 oa φ a w hs => ?_
      obtain ⟨e1, e2, e3⟩ := cellsV_vr hl (hs.ev x) (one1_ok h1)
      obtain ⟨φ', hs', hv⟩ := hs.newbox n hn l (a.eval x).cells t e1 e2 e3
      refine ⟨_, _, _, ?_, h, (hs'.put o.dst hd hv).sr⟩
      simp [execOp, ho, Instr.box, newVar, newRow]
    · exact h.elim
  · exact h.elim

/-! ### rows made -/
theorem zero_cells {z : Array Value} {m : Nat} (hz : 0 < z.size) : (madeCells z (m * z.size)).toList.length = m * z.size ∧ ∀ i j, j < z.size → i < m → (madeCells z (m * z.size))[i * z.size + j]? = some (z[j]!) := by
  refine ⟨by simp [madeCells], fun i j hj hi => ?_⟩
  have hlt : i * z.size + j < m * z.size := by
    calc i * z.size + j < i * z.size + z.size := by omega
      _ = (i + 1) * z.size := by rw [Nat.add_mul, Nat.one_mul]
      _ ≤ m * z.size := Nat.mul_le_mul_right _ hi
  have hm : (i * z.size + j) % z.size = j := by rw [Nat.add_comm, Nat.add_mul_mod_self_right, Nat.mod_eq_of_lt hj]
  simp [madeCells, hlt, hm]
/-- A type's zero as an element. -/
def cD0 : Value → D
  | .slice none 0 0 => .list []
  | x => .v x
theorem rd_c0 {w : World} {ok : Nat → Prop} (x : Value) : Rd w ok (cD0 x) x := by
  unfold cD0
  split
  · exact .nil _ _
  · exact .v x
theorem cells_c0 (x : Value) : (cD0 x).cells = [cD0 x] := by
  unfold cD0
  split <;> rfl
/-- What a type's zero is: a struct's or an array's cells (b), or one cell. -/
def zD (b : Bool) (z : List Value) : D := if b = true then .agg (z.map cD0) else match z with | [x] => cD0 x | _ => .agg []
theorem zD_cells {b : Bool} {z : List Value} (h : b = true ∨ z.length = 1) : (zD b z).cells = z.map cD0 := by
  unfold zD
  split
  · rfl
  · rename_i hb
    have h := h.resolve_left hb
    match z, h with
    | [x], _ => exact cells_c0 x
theorem rw_zeros {w : World} {ok : Nat → Prop} {z : Array Value} {m : Nat} {b : Bool} (hz : 0 < z.size) (h1 : z.toList.all (·.oneCell') = true) (hb : b = true ∨ z.toList.length = 1) : Rw w ok z.size (List.replicate m (zD b z.toList)) (madeCells z (m * z.size)).toList := by
  obtain ⟨hl, hg⟩ := zero_cells (m := m) hz
  have hcells := zD_cells hb
  refine ⟨by rw [hl, List.length_replicate], fun u hu => ?_, fun d hd => ?_, fun i j d x u hd hx hu => ?_⟩
  · obtain ⟨k, hk, rfl⟩ := List.mem_iff_getElem.1 hu
    have hk' : k < m * z.size := by simpa [madeCells] using hk
    have hq : k % z.size < z.size := Nat.mod_lt _ hz
    have : (madeCells z (m * z.size)).toList[k] = z[k % z.size] := by simp [madeCells, hq]
    rw [this]
    exact List.all_eq_true.1 h1 _ (by simp)
  · rw [List.eq_of_mem_replicate hd, hcells]
    simp
  · have hi : i < m := by
      have := (List.getElem?_eq_some_iff.1 hd).1
      simpa using this
    have hd' : d = zD b z.toList := List.eq_of_mem_replicate (List.mem_of_getElem? hd)
    subst hd'
    rw [hcells, List.getElem?_map] at hx
    obtain ⟨y, hy, rfl⟩ := Option.map_eq_some_iff.1 hx
    have hj : j < z.size := by simpa using (List.getElem?_eq_some_iff.1 hy).1
    have hu' : (madeCells z (m * z.size))[i * z.size + j]? = some u := by simpa using hu
    rw [hg i j hj hi] at hu'
    have hyj : z[j]! = y := by
      have h2 : z[j]? = some y := by simpa using hy
      rw [Array.getElem?_eq_getElem hj] at h2
      rw [getElem!_pos z j hj]
      exact Option.some.inj h2
    rw [hyj] at hu'
    obtain rfl := Option.some.inj hu'
    exact rd_c0 _
def e_make (P : Program) (t : TypeId) (x c : Operand) (o : Oper) (st : St) (K : V → List (Nat × Ob) → Prop) : Prop :=
  dOk o.dst st.nt ∧ match o.dst with
  | some n => go st.hp n = none ∧ match el P t with
    | some (e, sz, by') => match zc P e with
      | some z => match tk P e with
        | some (b, _) => match st.ev x with
          | .d (.v (.int _ m)) => match st.ev c with
            | .d (.v (.int _ cp)) => 0 ≤ m ∧ m ≤ cp ∧ (by' : Int) * cp ≤ 281474976710656 ∧ cp ≤ 9223372036854775807 ∧ 0 < sz ∧ z.length = sz ∧ z.all (·.oneCell') = true ∧ (b = true ∨ z.length = 1) ∧
                K (.sl n sz 0 m.toNat true) [(n, (.row e sz (List.replicate m.toNat (zD b z))))]
            | _ => False
          | _ => False
        | none => False
      | none => False
    | none => False
  | none => False
theorem s_make {P : Program} {t : TypeId} {x c : Operand} {o : Oper} {st : St} {K : St → Prop} (ho : o.op = .makeSlice t x c) (h : e_make P t x c o st fun x ups => K (st.upd o.dst x ups)) : Does P o st K := by
  obtain ⟨hd, h⟩ := h
  split at h
  · rename_i n hdst
    obtain ⟨hn, h⟩ := h
    split at h
    · rename_i e sz by' he
      split at h
      · rename_i z hz
        split at h
        · rename_i b q ht
          split at h
          · rename_i k m hx
            split at h
            · rename_i k' cp hc
              obtain ⟨h0, hmc, hby, h63, hsz, hzl, h1, hb, h⟩ := h
              obtain ⟨inf, hu, hinf, rfl, rfl⟩ := el_open he
              obtain ⟨inf', zv, hinf', hzv, rfl⟩ := zc_open hz
              obtain rfl : inf = inf' := Option.some.inj (hinf.symm.trans hinf')
              have hzs : zv.cells.size = inf.size := by simpa using hzl
              refine does_run fun w0 oa φ a w hs => ?_
              have e1 := hs.ev x; rw [hx] at e1
              have e2 := hs.ev c; rw [hc] at e2
              have hr := run_make (P := P) w t e inf zv hu hinf hzv k k' m cp h0 hmc hby h63
              obtain ⟨mm, rfl⟩ := Int.eq_ofNat_of_zero_le h0
              obtain ⟨cc, rfl⟩ := Int.eq_ofNat_of_zero_le (Int.le_trans h0 hmc)
              have hmc' : mm ≤ cc := by omega
              simp only [Int.toNat_natCast] at hr h ⊢
              have hz0 : 0 < zv.cells.size := by omega
              have hmade : (madeCells zv.cells (cc * inf.size)).toList.take (mm * inf.size) = (madeCells zv.cells (mm * inf.size)).toList := by
                apply List.ext_getElem?
                intro q
                have hle : mm * inf.size ≤ cc * inf.size := Nat.mul_le_mul_right _ hmc'
                rw [List.getElem?_take]
                by_cases hq : q < mm * inf.size
                · rw [if_pos hq]
                  simp [madeCells, hq, show q < cc * inf.size by omega]
                · rw [if_neg hq]
                  simp [madeCells, hq]
              have hown : (w.alloc (.cells (madeCells zv.cells (cc * inf.size)) e)).ownsRow w.heap.size e inf.size (.slice (some ⟨w.heap.size, 0, none⟩) mm cc) (List.replicate mm (zD b zv.cells.toList)).length (madeCells zv.cells (mm * inf.size)).toList := by
                rw [List.length_replicate]
                exact ⟨by simp [madeCells], .inr ⟨w.heap.size, cc, _, rfl, Nat.le_refl _, heap_alloc_new w _, hmc', by simp only [maxLen]; omega, by simp [madeCells], hmade⟩⟩
              have hrw := rw_zeros (w := w.alloc (.cells (madeCells zv.cells (cc * inf.size)) e)) (ok := okB w0 oa φ (go st.hp) w) (m := mm) hz0 h1 hb
              rw [hzs] at hrw
              obtain ⟨φ', hs', hv⟩ := hs.newrow n hn e inf.size (List.replicate mm (zD b zv.cells.toList)) _ _ hsz ((Below.refl _ _).alloc (Nat.le_refl _) _) hown hrw
              rw [List.length_replicate] at hv
              refine ⟨_, _, _, ?_, h, (hs'.put o.dst hd hv).sr⟩
              simp [execOp, ho, vr_v e1, vr_v e2, hr]
            · exact h.elim
          · exact h.elim
        · exact h.elim
      · exact h.elim
    · exact h.elim
  · exact h.elim
end Go.Proofs.Ytljohhinokaklaa.Am
