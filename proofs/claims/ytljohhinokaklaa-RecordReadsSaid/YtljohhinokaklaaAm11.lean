/- The abstract machine, part 11: operations in a row; code; functions. -/
import Derived.Test.YtljohhinokaklaaAm10
import Derived.Deep.LoopGhost
set_option linter.unusedVariables false
set_option linter.unusedSimpArgs false
namespace Go.Proofs.Ytljohhinokaklaa.Am
open Go Go.RowKit

/-! ### calls -/
def args (hp : List (Nat × Ob)) (st : St) : List Operand → Option (List D)
  | [] => some []
  | x :: r => match toD hp (st.ev x) with
    | some d => (args hp st r).map (d :: ·)
    | none => none
theorem args_get {hp : List (Nat × Ob)} {st : St} : ∀ {l : List Operand} {ds : List D}, args hp st l = some ds → ds.length = l.length ∧ ∀ (j : Nat) (x : Operand), l[j]? = some x → ∃ d, ds[j]? = some d ∧ toD hp (st.ev x) = some d
  | [], ds, h => by simp only [args, Option.some.injEq] at h; subst h; simp
  | x :: r, ds, h => by
    simp only [args] at h
    split at h
    · rename_i d hd
      obtain ⟨ds', hds, rfl⟩ := Option.map_eq_some_iff.1 h
      obtain ⟨hl, hh⟩ := args_get hds
      refine ⟨by simp [hl], fun j x' hx => ?_⟩
      cases j with
      | zero => simp at hx; subst hx; exact ⟨d, rfl, hd⟩
      | succ j => exact hh j x' (by simpa using hx)
    · cases h
def Scal' (d : D) : Prop := Scal d
/-- The arguments hold no place of the call's own. -/
def pus (st : St) : List Operand → Bool
  | [] => true
  | x :: r => pu (st.ev x) && pus st r
theorem pus_get {st : St} : ∀ {l : List Operand}, pus st l = true → ∀ x ∈ l, pu (st.ev x) = true
  | [], _, x, hx => by cases hx
  | y :: r, h, x, hx => by
    simp only [pus, Bool.and_eq_true] at h
    rcases List.mem_cons.1 hx with rfl | hx
    · exact h.1
    · exact pus_get h.2 x hx
theorem toD_rd {w0 w : World} {oa : Nat → Prop} {φ : Nat → Option Value} {hp : List (Nat × Ob)} (hr : HR w0 oa φ (go hp) w) {x : V} {y : Value} (hv : VR φ w (okB w0 oa φ (go hp) w) x y) {d : D} (h : toD hp x = some d) :
    Rd w (fun b => b < w.heap.size) d y ∧ (pu x = true → Rd w (okB w0 oa φ (go hp) w) d y) := by
  cases x with
  | agg l =>
    simp only [toD] at h
    obtain ⟨ds, hds, rfl⟩ := Option.map_eq_some_iff.1 h
    obtain ⟨cs, rfl, hl, h1, hh⟩ := vr_agg hv
    obtain ⟨hdl, hdg⟩ := toDs_get hds
    have hget : ∀ (j : Nat) (d' : D), ds[j]? = some d' → ∃ hj : j < l.length, toD1 hp l[j] = some d' := by
      intro j d' hd'
      have hj : j < l.length := by rw [← hdl]; exact (List.getElem?_eq_some_iff.1 hd').1
      obtain ⟨d2, hd2, ht⟩ := hdg j l[j] (by simp)
      exact ⟨hj, by rw [ht, ← hd2, hd']⟩
    refine ⟨.agg _ _ (by rw [hl, hdl]) h1 fun j d' y' hd' hy' => ?_, fun hp1 => .agg _ _ (by rw [hl, hdl]) h1 fun j d' y' hd' hy' => ?_⟩
    · obtain ⟨hj, ht⟩ := hget j d' hd'
      exact (toD1_rd hr (hh j l[j] y' (by simp) hy') ht).1
    · obtain ⟨hj, ht⟩ := hget j d' hd'
      exact (toD1_rd hr (hh j l[j] y' (by simp) hy') ht).2 (List.all_eq_true.1 hp1 _ (List.getElem_mem hj))
  | d x => exact toD1_rd hr hv (x := .d x) h
  | nil => exact toD1_rd hr hv (x := .nil) h
  | sl a b c e f => exact toD1_rd hr hv (x := .sl a b c e f) h
  | ptr a b => exact toD1_rd hr hv (x := .ptr a b) h
  | ep a b c e => exact toD1_rd hr hv (x := .ep a b c e) h
  | tup l => exact toD1_rd hr hv (x := .tup l) h
  | junk => exact toD1_rd hr hv (x := .junk) h
/-- None of these names is taken. -/
def freshL (n : Nat) (hp : List (Nat × Ob)) : List (Nat × Ob) → Prop
  | [] => True
  | p :: r => go hp (shift n p.1) = none ∧ freshL n hp r
theorem freshL_get {n : Nat} {hp : List (Nat × Ob)} : ∀ {l : List (Nat × Ob)}, freshL n hp l → ∀ p ∈ l, go hp (shift n p.1) = none
  | [], _, p, hp => by cases hp
  | q :: r, h, p, hp => by
    rcases List.mem_cons.1 hp with rfl | hp
    · exact h.1
    · exact freshL_get h.2 p hp
def vaOL (Pd : D → Prop) (dom : Nat → Prop) : List (Nat × Ob) → Prop
  | [] => True
  | p :: r => vaO Pd dom p.2 ∧ vaOL Pd dom r
theorem vaOL_get {Pd : D → Prop} {dom : Nat → Prop} : ∀ {l : List (Nat × Ob)}, vaOL Pd dom l → ∀ p ∈ l, vaO Pd dom p.2
  | [], _, p, hp => by cases hp
  | q :: r, h, p, hp => by
    rcases List.mem_cons.1 hp with rfl | hp
    · exact h.1
    · exact vaOL_get h.2 p hp
def outB (Pd : D → Prop) (out : Out) : Prop := va Pd (inDom out.obs) out.val ∧ vaOL Pd (inDom out.obs) out.obs
theorem outB_A {Pd : D → Prop} {out : Out} (h : outB Pd out) : outA Pd out := ⟨h.1, vaOL_get h.2⟩
def e_call (Sp : FuncId → List D → Out → Prop) (f : FuncId) (xs : Array Operand) (o : Oper) (st : St) (K : V → List (Nat × Ob) → Prop) : Prop :=
  dOk o.dst st.nt ∧ match args st.hp st xs.toList with
  | some ds => ∃ out, Sp f ds out ∧ freshL (o.dst.getD 0) st.hp out.obs ∧ ((pus st xs.toList = true ∧ outB tt out) ∨ outB Scal' out) ∧
      K (ren (shift (o.dst.getD 0)) out.val) (renM (o.dst.getD 0) out.obs)
  | none => False
theorem s_call {P : Program} {Sp : FuncId → List D → Out → Prop} (hG : ∀ f ds out, Sp f ds out → Ent P f ∧ Good P f (fun a b => a = ds ∧ b = out)) {f : FuncId} {xs : Array Operand} {ts : Array TypeId} {o : Oper} {st : St} {K : St → Prop} (ho : o.op = .call { callee := .value (.func f), args := xs, argTypes := ts })
    (h : e_call Sp f xs o st fun x ups => K (st.upd o.dst x ups)) : Does P o st K := by
  obtain ⟨hd, h⟩ := h
  split at h
  case h_2 => exact h.elim
  rename_i ds hds
  obtain ⟨out, hsp, hfr, hsh, hk⟩ := h
  have hfr := freshL_get hfr
  replace hsh := hsh.imp (fun h => (⟨h.1, outB_A h.2⟩ : _ ∧ _)) outB_A
  obtain ⟨⟨fn, hfn, hbody, hname⟩, hgood⟩ := hG f ds out hsp
  obtain ⟨hal, hag⟩ := args_get hds
  intro w0 oa φ a w hs next Q hnext
  have hrun : (execOp a.eval o).run P w = .ok (.enter f (xs.map a.eval)) w := by
    have hb : ¬ fn.body = none := by cases hb : fn.body <;> simp [hb] at hbody ⊢
    have hnm : ¬ fn.name = "runtime.NumGoroutine" := by simpa using hname
    simp [execOp, ho, resolve, Act.eval, Deferred.ofValue, invoke, callFunc, hfn, hnm, hb]
  unfold Oper.wp
  rw [hrun]
  have hsz : (xs.map a.eval).size = ds.length := by rw [hal]; simp
  have hget : ∀ (i : Nat) (d : D) (y : Value), ds[i]? = some d → (xs.map a.eval)[i]? = some y → ∃ x ∈ xs.toList, y = a.eval x ∧ toD st.hp (st.ev x) = some d := by
    intro i d y hd' hy
    have hi : i < xs.size := by
      have := (Array.getElem?_eq_some_iff.1 hy).1
      simpa using this
    obtain ⟨d2, hd2, ht⟩ := hag i xs[i] (by simp)
    have hy2 : y = a.eval xs[i] := by simp at hy; obtain ⟨z, hz, rfl⟩ := hy; rw [Array.getElem?_eq_getElem hi] at hz; cases hz; rfl
    exact ⟨xs[i], by simp, hy2, by rw [ht, ← hd2, hd']⟩
  show Calls P f (xs.map a.eval) w _
  rcases hsh with ⟨hpu, hA⟩ | hA
  · refine (hgood ds out ⟨rfl, rfl⟩ (okB w0 oa φ (go st.hp) w) (xs.map a.eval) w hsz (fun i d y hd' hy => ?_)).mono fun e w' he => ?_
    · obtain ⟨x, hx, rfl, ht⟩ := hget i d y hd' hy
      exact ((toD_rd hs.hr (hs.ev x) ht).2 (pus_get hpu x hx)).mono (fun _ _ => rfl) (fun b hb => ⟨hb, okB_lt hs.hr.below.size hb⟩)
    · obtain ⟨y, rfl, φ1, h1, h2⟩ := he
      obtain ⟨φ2, hs2, hv2⟩ := call_state hs hfr hA h1 h2 (fun ok hok d z _ hr => hr.mono (fun _ _ => rfl) hok)
      exact hnext _ _ _ hk (hs2.put o.dst hd hv2).sr
  · refine (hgood ds out ⟨rfl, rfl⟩ (fun _ => True) (xs.map a.eval) w hsz (fun i d y hd' hy => ?_)).mono fun e w' he => ?_
    · obtain ⟨x, hx, rfl, ht⟩ := hget i d y hd' hy
      exact (toD_rd hs.hr (hs.ev x) ht).1.mono (fun _ _ => rfl) (fun b hb => ⟨trivial, hb⟩)
    · obtain ⟨y, rfl, φ1, h1, h2⟩ := he
      obtain ⟨φ2, hs2, hv2⟩ := call_state hs hfr hA h1 h2 (fun ok hok d z hsc hr => hr.scal hsc)
      exact hnext _ _ _ hk (hs2.put o.dst hd hv2).sr

/-! ### an operation, whichever it is -/
structure Env where
  P : Program
  Sp : FuncId → List D → Out → Prop
  Es : TypeId → Nat → Prop
structure Env.Ok (E : Env) : Prop where
  sp : ∀ f ds out, E.Sp f ds out → Ent E.P f ∧ Good E.P f (fun a b => a = ds ∧ b = out)
  es : ∀ t n, E.Es t n → EqS E.P t n
def evc (E : Env) (c : Call) (o : Oper) (st : St) (K : V → List (Nat × Ob) → Prop) : Prop :=
  match c with
  | { callee := .value (.func f), args := xs, .. } => e_call E.Sp f xs o st K
  | { callee := .builtin .len, args := ⟨[x]⟩, argTypes := ⟨[t]⟩ } => e_len E.P t x o st K
  | { callee := .builtin .append, args := ⟨[s, x]⟩, argTypes := ⟨[t, u]⟩ } => t = u ∧ e_app E.P t s x o st K
  | { callee := .builtin .copy, args := ⟨[x, y]⟩, argTypes := ⟨[t, u]⟩ } => e_copy E.P t x y o st K
  | { callee := .builtin .min, args := xs, .. } => e_mm false xs o st K
  | { callee := .builtin .max, args := xs, .. } => e_mm true xs o st K
  | _ => False
def evk (E : Env) (o : Oper) (st : St) (K : V → List (Nat × Ob) → Prop) : Prop :=
  match o.op with
  | .move x => e_move x o st K
  | .assign x => e_move x o st K
  | .pick c x y => e_pick c x y o st K
  | .alloc t => e_alloc E.P t o st K
  | .box t x => e_box t x o st K
  | .build t ps => e_build E.P t ps o st K
  | .buildSlice t n ps => e_lit E.P t n ps o st K
  | .load t x => e_load E.P t x o st K
  | .store t x y => e_store E.P t x y o st K
  | .nilCheck x => e_nil x o st K
  | .binOp op t x y _ => e_bin E.P E.Es op t x y o st K
  | .unOp op _ x => e_un op x o st K
  | .convert s d x => e_cnv E.P s d x o st K
  | .makeSlice t x c => e_make E.P t x c o st K
  | .slice t x lo hi mx => e_cut E.P t x lo hi mx o st K
  | .fieldAddr s x f => e_field E.P s x f o st K
  | .field s x f => e_fld E.P s x f o st K
  | .indexAddr t x i => e_index E.P t x i o st K
  | .extract x i => e_extract x i o st K
  | .call c => evc E c o st K
  | _ => False
theorem s_evk {E : Env} (hE : E.Ok) {o : Oper} {st : St} {K : St → Prop} (h : evk E o st fun x ups => K (st.upd o.dst x ups)) : Does E.P o st K := by
  unfold evk at h
  split at h
  · exact s_move ‹_› h
  · exact s_assign ‹_› h
  · exact s_pick ‹_› h
  · exact s_alloc ‹_› h
  · exact s_box ‹_› h
  · exact s_build ‹_› h
  · exact s_lit ‹_› h
  · exact s_load ‹_› h
  · exact s_store ‹_› h
  · exact s_nil ‹_› h
  · exact s_bin hE.es ‹_› h
  · exact s_un ‹_› h
  · exact s_cnv ‹_› h
  · exact s_make ‹_› h
  · exact s_cut ‹_› h
  · exact s_field ‹_› h
  · exact s_fld ‹_› h
  · exact s_index ‹_› h
  · exact s_extract ‹_› h
  · unfold evc at h
    split at h
    · exact s_call hE.sp ‹_› h
    · exact s_len ‹_› h
    · obtain ⟨rfl, h⟩ := h; exact s_app ‹_› h
    · exact s_copy ‹_› h
    · exact s_mm (mx := false) ‹_› h
    · exact s_mm (mx := true) ‹_› h
    · exact h.elim
  · exact h.elim

/-! ### operations in a row -/
/-- What a guard sees. -/
def gv (ops : Array Oper) (st : St) (j : Nat) : Option (Option Bool) :=
  match ops[j]? with
  | some o => match o.dst with
    | some t => if t < st.nt then match gt st.tm t with
      | .d (.v (.bool b)) => some (some b)
      | .d (.v (.tuple _)) => some none
      | _ => none
      else none
    | none => none
  | none => none
theorem gv_ok {ops : Array Oper} {w0 w : World} {oa : Nat → Prop} {φ : Nat → Option Value} {st : St} {a : Act} (hs : SRp w0 oa φ st a w) {j : Nat} {r : Option Bool} (h : gv ops st j = some r) : yielded ops a.tmps j = r := by
  unfold gv at h
  split at h
  case h_2 => cases h
  rename_i o ho
  split at h
  case h_2 => cases h
  rename_i t ht
  split at h
  case isFalse => cases h
  rename_i hlt
  have hv := hs.tm t
  have hg : a.tmps[t]? = some (a.tmps.getD t undef) := by
    have : t < a.tmps.size := by rw [hs.sz]; exact hlt
    simp [Array.getD_eq_getD_getElem?, this]
  split at h
  · rename_i b hb
    cases h
    rw [hb] at hv
    simp [yielded, ho, ht, hg, vr_v hv]
  · rename_i l hb
    cases h
    rw [hb] at hv
    simp [yielded, ho, ht, hg, vr_v hv]
  · cases h
def ev1 (E : Env) (ops : Array Oper) (o : Oper) (st : St) (K : V → List (Nat × Ob) → Prop) : Prop :=
  match o.guard with
  | none => evk E o st K
  | some (j, want) => match gv ops st j with
    | some (some b) => (b = want → evk E o st K) ∧ (b = !want → dOk o.dst st.nt ∧ K (.d (.v undef)) [])
    | some none => dOk o.dst st.nt ∧ K (.d (.v undef)) []
    | none => False
theorem s_ev1 {E : Env} (hE : E.Ok) {ops : Array Oper} {o : Oper} {st : St} {K : St → Prop} (h : ev1 E ops o st fun x ups => K (st.upd o.dst x ups)) {w0 w : World} {oa : Nat → Prop} {φ : Nat → Option Value} {a : Act} (hs : SRp w0 oa φ st a w) {next : Act → World → Prop} {Q : Exit → Act → World → Prop}
    (hn : ∀ st' a' w', K st' → SR w0 oa st' a' w' → next a' w') : if Region.wanted o (yielded ops a.tmps) = true then o.wp E.P a w next Q else next (a.put o.dst undef) w := by
  unfold ev1 at h
  split at h
  · rename_i hg
    rw [if_pos (by simp [Region.wanted, hg])]
    exact s_evk hE h _ _ _ _ _ hs next Q hn
  · rename_i j want hg
    split at h
    · rename_i b hb
      have hy := gv_ok hs hb
      by_cases hbw : b = want
      · rw [if_pos (by simp [Region.wanted, hg, hy, hbw])]
        exact s_evk hE (h.1 hbw) _ _ _ _ _ hs next Q hn
      · have hne : b = !want := by cases b <;> cases want <;> simp_all
        rw [if_neg (by simp [Region.wanted, hg, hy, hbw])]
        obtain ⟨hd, hk⟩ := h.2 hne
        exact hn _ _ _ hk (hs.put o.dst hd (.d _ _ (.v _))).sr
    · rename_i hb
      have hy := gv_ok hs hb
      rw [if_neg (by simp [Region.wanted, hg, hy])]
      exact hn _ _ _ h.2 (hs.put o.dst h.1 (.d _ _ (.v _))).sr
    · exact h.elim
def awl (E : Env) (ops : Array Oper) : List Oper → St → (St → Prop) → Prop
  | [], st, K => K st
  | o :: r, st, K => ev1 E ops o st fun x ups => awl E ops r (st.upd o.dst x ups) K
theorem awl_ok {E : Env} (hE : E.Ok) {ops : Array Oper} {w0 : World} {oa : Nat → Prop} {Q : Exit → Act → World → Prop} {K : St → Prop} (hQ : ∀ st' a' w', K st' → SR w0 oa st' a' w' → Q .normal a' w') :
    ∀ (l pre : List Oper) (st : St) (a : Act) (w : World), ops.toList = pre ++ l → awl E ops l st K → SR w0 oa st a w → wpOps E.P ops Q (List.range' pre.length l.length) a w
  | [], pre, st, a, w, _, h, hs => by
    simp only [List.length_nil, List.range'_zero, wpOps]
    exact hQ _ _ _ h hs
  | o :: r, pre, st, a, w, he, h, hs => by
    obtain ⟨φ, hs⟩ := hs.open
    simp only [List.length_cons, List.range'_succ, wpOps]
    have ho : ops[pre.length]? = some o := by
      have : ops.toList[pre.length]? = some o := by rw [he]; simp
      simpa using this
    rw [ho]
    have := s_ev1 hE (K := fun st' => awl E ops r st' K) (next := wpOps E.P ops Q (List.range' (pre.length + 1) r.length)) (Q := Q) h hs (fun st' a' w' hk hs' => by
      have := awl_ok hE hQ r (pre ++ [o]) st' a' w' (by rw [he]; simp) hk hs'
      simpa using this)
    simp only
    split at this
    · rename_i hw
      rw [if_pos hw]
      exact .inl this
    · rename_i hw
      rw [if_neg hw]
      exact this

/-! ### code -/
def AWr (E : Env) (c : Code) (st : St) (Q : Exit → St → Prop) : Prop :=
  ∀ w0 oa a w, SR w0 oa st a w → c.wp E.P (fun e a' w' => ∃ st', Q e st' ∧ SR w0 oa st' a' w') a w
theorem AWr.mono {E : Env} {c : Code} {st : St} {Q Q' : Exit → St → Prop} (h : AWr E c st Q) (hq : ∀ e s, Q e s → Q' e s) : AWr E c st Q' :=
  fun w0 oa a w hs => wp_mono (h w0 oa a w hs) fun e a w ⟨s, h1, h2⟩ => ⟨s, hq _ _ h1, h2⟩
theorem AWr.weak {E : Env} {c : Code} {st st' : St} {Q : Exit → St → Prop} (h : AWr E c st' Q) (hw : ∀ w0 oa a w, SR w0 oa st a w → SR w0 oa st' a w) : AWr E c st Q := fun w0 oa a w hs => h w0 oa a w (hw _ _ _ _ hs)
theorem AWr.skip {E : Env} {st : St} {Q : Exit → St → Prop} (h : Q .normal st) : AWr E .skip st Q := fun _ _ _ _ hs => wp_skip ⟨st, h, hs⟩
theorem AWr.exit {E : Env} {st : St} {Q : Exit → St → Prop} {id : Nat} (h : Q (.exit id) st) : AWr E (.exit id) st Q := fun _ _ _ _ hs => wp_exit ⟨st, h, hs⟩
theorem AWr.ret {E : Env} {st : St} {Q : Exit → St → Prop} (h : Q .ret st) : AWr E .ret st Q := fun _ _ _ _ hs => wp_ret ⟨st, h, hs⟩
def thenR (next : St → Prop) (Q : Exit → St → Prop) : Exit → St → Prop
  | .normal, s => next s
  | e, s => Q e s
theorem AWr.seq {E : Env} {x y : Code} {st : St} {Q : Exit → St → Prop} (h : AWr E x st (thenR (fun s => AWr E y s Q) Q)) : AWr E (.seq x y) st Q := by
  intro w0 oa a w hs
  refine wp_seq (wp_mono (h w0 oa a w hs) fun e a' w' ⟨s, h1, h2⟩ => ?_)
  cases e with
  | normal => exact h1 w0 oa a' w' h2
  | _ => exact ⟨s, h1, h2⟩
theorem AWr.cond {E : Env} {c : Operand} {x y : Code} {st : St} {Q : Exit → St → Prop} {b : Bool} (hc : st.ev c = .d (.v (.bool b))) (ht : b = true → AWr E x st Q) (hf : b = false → AWr E y st Q) : AWr E (.cond c x y) st Q := by
  intro w0 oa a w hs
  obtain ⟨φ, hs'⟩ := hs.open
  have e1 := hs'.ev c
  rw [hc] at e1
  refine wp_cond (vr_v e1) ?_
  cases b with
  | true => exact ht rfl w0 oa a w hs
  | false => exact hf rfl w0 oa a w hs
def blockR (id : Nat) (Q : Exit → St → Prop) : Exit → St → Prop
  | .exit i, s => if i = id then Q .normal s else Q (.exit i) s
  | e, s => Q e s
theorem AWr.block {E : Env} {id : Nat} {c : Code} {st : St} {Q : Exit → St → Prop} (h : AWr E c st (blockR id Q)) : AWr E (.block id c) st Q := by
  intro w0 oa a w hs
  refine wp_block (wp_mono (h w0 oa a w hs) fun e a' w' ⟨s, h1, h2⟩ => ?_)
  cases e with
  | exit i =>
    simp only [blockR] at h1
    simp only [Exit.inBlock]
    split at h1
    · rename_i hi; rw [if_pos hi]; exact ⟨s, h1, h2⟩
    · rename_i hi; rw [if_neg hi]; exact ⟨s, h1, h2⟩
  | _ => exact ⟨s, h1, h2⟩
def keepL (tm : List (Nat × V)) : List Nat → List (Nat × V)
  | [] => []
  | k :: r => (k, gt tm k) :: keepL tm r
def St.keep (st : St) (l : List Nat) : St := { st with tm := keepL st.tm l }
theorem gt_keep (st : St) (l : List Nat) (k : Nat) : gt (st.keep l).tm k = if k ∈ l then gt st.tm k else .junk := by
  simp only [St.keep]
  induction l with
  | nil => simp [gt, keepL]
  | cons j r ih =>
    simp only [keepL, gt]
    by_cases h : k = j
    · subst h; simp
    · rw [if_neg h, ih]; simp [h]
theorem keep_sr {w0 w : World} {oa : Nat → Prop} {st : St} {a : Act} (l : List Nat) (hs : SR w0 oa st a w) : SR w0 oa (st.keep l) a w := by
  obtain ⟨φ, h1, h2, h3, h4⟩ := hs
  refine ⟨φ, h1, h2, h3, fun k => ?_⟩
  rw [gt_keep]
  split
  · exact h4 k
  · exact .junk _
theorem AWr.region {E : Env} (hE : E.Ok) {id : Nat} {ops : Array Oper} {st : St} {Q : Exit → St → Prop} (l : List Nat) (h : awl E ops ops.toList st fun s => Q .normal (s.keep l)) : AWr E (.region id ops false) st Q := by
  intro w0 oa a w hs
  refine wp_region ?_
  have := awl_ok (ops := ops) hE (w0 := w0) (oa := oa) (Q := fun e a' w' => ∃ st', Q e st' ∧ SR w0 oa st' a' w') (K := fun s => Q .normal (s.keep l)) (fun st' a' w' hk hs' => ⟨_, hk, keep_sr l hs'⟩) ops.toList [] st a w rfl h hs
  simpa [List.range_eq_range'] using this
theorem AWr.loop {E : Env} {c : Code} {st : St} {Q : Exit → St → Prop} {ι : Type} (S : ι → St) (G : ι → Prop) (μ : ι → Nat) (i0 : ι) (g0 : G i0) (h0 : ∀ w0 oa a w, SR w0 oa st a w → SR w0 oa (S i0) a w)
    (round : ∀ i, G i → AWr E c (S i) (thenR (fun s => ∃ j, G j ∧ μ j < μ i ∧ ∀ w0 oa a w, SR w0 oa s a w → SR w0 oa (S j) a w) Q)) : AWr E (.loop c) st Q := by
  intro w0 oa a w hs
  refine wp_loop_ghost (fun n a w => ∃ i, μ i = n ∧ G i ∧ SR w0 oa (S i) a w) (μ i0) ⟨i0, rfl, g0, h0 w0 oa a w hs⟩ ?_
  rintro n a w ⟨i, rfl, hg, hs⟩
  refine wp_mono (round i hg w0 oa a w hs) fun e a' w' ⟨s, h1, h2⟩ => ?_
  cases e with
  | normal =>
    obtain ⟨j, hj, hlt, hw⟩ := h1
    exact ⟨μ j, hlt, j, rfl, hj, hw _ _ _ _ h2⟩
  | _ => exact ⟨s, h1, h2⟩

/-! ### functions -/
def resV (P : Program) (st : St) : ResultVar → Option V
  | .tmp t => some (gt st.tm t)
  | .cell c t => match gt st.tm c with
    | .ptr id off => match go st.hp id with
      | some (.box l) => match tk P t with
        | some (b, n) => ldV b n (l.drop off)
        | none => none
      | _ => none
    | _ => none
def resM (tmps : Array Value) : ResultVar → Sem Value
  | .tmp t => pure (tmps.getD t undef)
  | .cell a t => do loadVar t (← asAddr (tmps.getD a undef))
theorem results_eq (fn : Func) (tmps : Array Value) : results fn tmps = (do
    let vs ← fn.results.mapM (resM tmps)
    pure (if h : vs.size = 1 then vs[0] else .tuple vs)) := by
  unfold results
  congr 1
theorem resV_ok {P : Program} {w0 w : World} {oa : Nat → Prop} {φ : Nat → Option Value} {st : St} {a : Act} (hs : SRp w0 oa φ st a w) {r : ResultVar} {v : V} (h : resV P st r = some v) :
    ∃ y, (resM a.tmps r).run P w = .ok y w ∧ VR φ w (okB w0 oa φ (go st.hp) w) v y := by
  cases r with
  | tmp t =>
    simp only [resV, Option.some.injEq] at h
    subst h
    exact ⟨_, rfl, hs.tm t⟩
  | cell c t =>
    simp only [resV] at h
    split at h
    case h_2 => cases h
    rename_i id off hc
    split at h
    case h_2 => cases h
    rename_i l hg
    split at h
    case h_2 => cases h
    rename_i b n ht
    have e1 := hs.tm c
    rw [hc] at e1
    obtain ⟨bb, hb, e1⟩ := vr_ptr e1
    obtain ⟨bb', f, hu, hw⟩ := box_win hs.hr hg
    obtain rfl : bb = bb' := by have := hb.symm.trans hu; simpa using this
    obtain ⟨y, hy, hvy⟩ := win_load (hw.drop off) ht h
    refine ⟨y, ?_, hvy⟩
    simp only [resM, e1, asAddr]
    simpa using hy
def resL (P : Program) (st : St) : List ResultVar → Option (List V)
  | [] => some []
  | r :: rs => match resV P st r with
    | some v => (resL P st rs).map (v :: ·)
    | none => none
/-- What a function gives. -/
def resW (P : Program) (st : St) (rs : Array ResultVar) : Option V :=
  match resL P st rs.toList with
  | some [v] => some v
  | some l => some (.tup l)
  | none => none
theorem resL_ok {P : Program} {w0 w : World} {oa : Nat → Prop} {φ : Nat → Option Value} {st : St} {a : Act} (hs : SRp w0 oa φ st a w) : ∀ {l : List ResultVar} {vs : List V}, resL P st l = some vs →
    ∃ ys : List Value, (l.mapM (resM a.tmps)).run P w = .ok ys w ∧ ys.length = vs.length ∧
      ∀ (j : Nat) (x : V) (y : Value), vs[j]? = some x → ys[j]? = some y → VR φ w (okB w0 oa φ (go st.hp) w) x y
  | [], vs, h => by
    simp only [resL, Option.some.injEq] at h
    subst h
    exact ⟨[], by simp, rfl, by simp⟩
  | r :: l, vs, h => by
    simp only [resL] at h
    split at h
    case h_2 => cases h
    rename_i v hv
    obtain ⟨vs', hvs, rfl⟩ := Option.map_eq_some_iff.1 h
    obtain ⟨y, hy, hvy⟩ := resV_ok hs hv
    obtain ⟨ys, h1, h2, h3⟩ := resL_ok hs hvs
    refine ⟨y :: ys, ?_, by simp [h2], fun j x z hx hz => ?_⟩
    · rw [List.mapM_cons]
      simp only [Sem.run_bind]
      rw [hy]
      simp only [Result.andThen_ok]
      rw [h1]
      simp
    · cases j with
      | zero => simp at hx hz; subst hx; subst hz; exact hvy
      | succ j => exact h3 j x z (by simpa using hx) (by simpa using hz)
theorem resW_ok {P : Program} {w0 w : World} {oa : Nat → Prop} {φ : Nat → Option Value} {st : St} {a : Act} (hs : SRp w0 oa φ st a w) {fn : Func} {v : V} (h : resW P st fn.results = some v) :
    ∃ y, (results fn a.tmps).run P w = .ok y w ∧ VR φ w (okB w0 oa φ (go st.hp) w) v y := by
  unfold resW at h
  have hm : ∀ vs, resL P st fn.results.toList = some vs → ∃ ys : List Value, (fn.results.mapM (resM a.tmps)).run P w = .ok ys.toArray w ∧ ys.length = vs.length ∧
      ∀ (j : Nat) (x : V) (y : Value), vs[j]? = some x → ys[j]? = some y → VR φ w (okB w0 oa φ (go st.hp) w) x y := by
    intro vs hvs
    obtain ⟨ys, h1, h2, h3⟩ := resL_ok hs hvs
    refine ⟨ys, ?_, h2, h3⟩
    rw [Array.mapM_eq_mapM_toList]
    simp only [Sem.run_map]
    rw [h1]
    rfl
  split at h
  · rename_i v' hv'
    cases h
    obtain ⟨ys, h1, h2, h3⟩ := hm _ hv'
    match ys, h2 with
    | [y], _ =>
      refine ⟨y, ?_, h3 0 _ y rfl rfl⟩
      rw [results_eq, Sem.run_bind, h1]
      rfl
  · rename_i l hne hl
    cases h
    obtain ⟨ys, h1, h2, h3⟩ := hm _ hl
    refine ⟨.tuple ys.toArray, ?_, .tup _ _ (by simpa using h2) (fun j x y hx hy => h3 j x y hx (by simpa using hy))⟩
    rw [results_eq, Sem.run_bind, h1]
    simp only [Result.andThen_ok, Sem.run_pure]
    have hlen : ¬ ys.toArray.size = 1 := by
      intro he
      match l, hne with
      | [x], hne => exact hne x rfl
      | [], _ => simp at h2; subst h2; simp at he
      | x :: y :: r, _ => simp at he h2; omega
    rw [dif_neg hlen]
  · cases h
/-- A function's end: what it gives is out, under the names ρ. -/
def Ends (P : Program) (rs : Array ResultVar) (out : Out) (e : Exit) (st : St) : Prop :=
  (e = .normal ∨ e = .ret) ∧ ∃ ρ, resW P st rs = some (ren ρ out.val) ∧ va tt (inDom out.obs) out.val ∧ Sub ρ st.hp out.obs
def ofD : D → V
  | .agg l => .agg (l.map .d)
  | x => .d x
def tmOf : Nat → List D → List (Nat × V)
  | _, [] => []
  | i, d :: r => (i, ofD d) :: tmOf (i + 1) r
theorem gt_tmOf : ∀ (ds : List D) (i k : Nat), gt (tmOf i ds) k = .junk ∨ ∃ j d, k = i + j ∧ ds[j]? = some d ∧ gt (tmOf i ds) k = ofD d
  | [], i, k => .inl rfl
  | d :: r, i, k => by
    simp only [tmOf, gt]
    split
    · rename_i e; exact .inr ⟨0, d, by omega, rfl, rfl⟩
    · rcases gt_tmOf r (i + 1) k with h | ⟨j, d', h1, h2, h3⟩
      · exact .inl h
      · exact .inr ⟨j + 1, d', by omega, by simpa using h2, h3⟩
theorem ofD_vr {φ : Nat → Option Value} {w : World} {ok : Nat → Prop} {d : D} {y : Value} (h : Rd w ok d y) : VR φ w ok (ofD d) y := by
  cases h with
  | agg l cs hl h1 h =>
    refine .agg _ _ (by simpa using hl) h1 fun j x y hx hy => ?_
    rw [List.getElem?_map] at hx
    obtain ⟨z, hz, rfl⟩ := Option.map_eq_some_iff.1 hx
    exact .d _ _ (h j z y hz hy)
  | v => exact .d _ _ (.v _)
  | nil A c => exact .d _ _ (.nil A c)
  | list l sz b o c vals hc hok hsz hd hv h1 h => exact .d _ _ (.list l sz b o c vals hc hok hsz hd hv h1 h)
  | ref d b o vals hok hv h1 h => exact .d _ _ (.ref d b o vals hok hv h1 h)
theorem good_bodyr {E : Env} {f : FuncId} {fn : Func} {c : Code} {nt : Nat} {rs : Array ResultVar} (hf : E.P.funcs[f]? = some fn) (hb : fn.body = some c) (hnt : fn.ntmps = nt) (hrs : fn.results = rs) {Sp : List D → Out → Prop}
    (h : ∀ ds out, Sp ds out → ds.length ≤ nt ∧ AWr E c ⟨tmOf 0 ds, [], nt⟩ (Ends E.P rs out)) : Good E.P f Sp := by
  subst hnt hrs
  intro ds out hsp oa args w hsz hrd
  obtain ⟨hle, hw⟩ := h ds out hsp
  refine calls_of_wp hf hb ?_
  have hsr : SR w oa ⟨tmOf 0 ds, [], fn.ntmps⟩ { tmps := args ++ Array.replicate (fn.ntmps - args.size) undef, defers := [] } w := by
    refine ⟨fun _ => none, ⟨Below.refl _ _, fun id o ho => by simp [go] at ho, fun _ _ => rfl, fun id id' o o' v v' ho => by simp [go] at ho⟩, by simp; omega, rfl, fun k => ?_⟩
    rcases gt_tmOf ds 0 k with hj | ⟨j, d, hk, hd, he⟩
    · simp only at hj ⊢; rw [hj]; exact .junk _
    · simp only at he ⊢
      rw [he]
      obtain rfl : k = j := by omega
      have hlt : k < args.size := by rw [hsz]; exact (List.getElem?_eq_some_iff.1 hd).1
      have hg : (args ++ Array.replicate (fn.ntmps - args.size) undef).getD k undef = args[k] := by
        simp [Array.getD_eq_getD_getElem?, Array.getElem?_append_left hlt, hlt]
      rw [hg]
      refine ofD_vr ((hrd k d args[k] hd (by simp)).mono (fun _ _ => rfl) (fun b hb => ⟨?_, fun id o v ho => by simp [go] at ho⟩))
      exact .inl hb
  refine wp_mono (hw w oa _ w hsr) fun e a' w' ⟨st', he, hs'⟩ => ?_
  obtain ⟨hee, ρ, h1, h2, h3⟩ := he
  obtain ⟨φ, hs'⟩ := hs'.open
  obtain ⟨y, hy, hvy⟩ := resW_ok hs' h1
  obtain ⟨φ', g1, g2, g3⟩ := h3.hr hs'.hr
  have hv' := vr_back g3 (fun d y _ hr => hr.mono (fun _ _ => rfl) g2) hvy h2
  rcases hee with rfl | rfl
  · exact ⟨hs'.df, y, hy, y, rfl, φ', g1, hv'⟩
  · exact ⟨hs'.df, y, hy, y, rfl, φ', g1, hv'⟩
end Go.Proofs.Ytljohhinokaklaa.Am
