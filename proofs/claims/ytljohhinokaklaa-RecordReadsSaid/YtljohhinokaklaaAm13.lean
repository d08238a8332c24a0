/- The abstract machine, part 13: the rules as a proof uses them; words for numbers and bytes. -/
import Derived.Test.YtljohhinokaklaaAm12
import Derived.Laws.Strings
set_option linter.unusedVariables false
set_option linter.unusedSimpArgs false
namespace Go.Proofs.Ytljohhinokaklaa.Am
open Go Go.RowKit

theorem Good.one {P : Program} {f : FuncId} {Sp : List D → Out → Prop} (h : Good P f Sp) {ds : List D} {out : Out} (hs : Sp ds out) : Good P f (fun a b => a = ds ∧ b = out) := by
  rintro a b ⟨rfl, rfl⟩; exact h _ _ hs
/-- Code from a state: what it comes to. (Opaque to the unifier: a structure.) -/
def bare (P : Program) : Env := ⟨P, fun _ _ _ => False, fun _ _ => False⟩
structure AW (P : Program) (c : Code) (st : St) (Q : Exit → St → Prop) : Prop where
  h : AWr (bare P) c st Q
theorem AWr.bare {E : Env} {c : Code} {st : St} {Q : Exit → St → Prop} (h : AWr E c st Q) : AWr (bare E.P) c st Q := h
theorem AWr.full {E : Env} {c : Code} {st : St} {Q : Exit → St → Prop} (h : AWr (Am.bare E.P) c st Q) : AWr E c st Q := h
structure thenA (next : St → Prop) (Q : Exit → St → Prop) (e : Exit) (s : St) : Prop where
  h : thenR next Q e s
structure blockA (id : Nat) (Q : Exit → St → Prop) (e : Exit) (s : St) : Prop where
  h : blockR id Q e s
section
variable {P : Program} {E : Env} {c x y : Code} {st st' : St} {Q Q' : Exit → St → Prop} {id : Nat}
theorem AW.mono (h : AW P c st Q) (hq : ∀ e s, Q e s → Q' e s) : AW P c st Q' := ⟨h.h.mono hq⟩
theorem AW.weak (h : AW P c st' Q) (hw : ∀ w0 oa a w, SR w0 oa st a w → SR w0 oa st' a w) : AW P c st Q := ⟨h.h.weak hw⟩
theorem AW.skip (h : Q .normal st) : AW P .skip st Q := ⟨AWr.skip h⟩
theorem AW.exit (h : Q (.exit id) st) : AW P (.exit id) st Q := ⟨AWr.exit h⟩
theorem AW.ret (h : Q .ret st) : AW P .ret st Q := ⟨AWr.ret h⟩
theorem AW.seq (h : AW P x st (thenA (fun s => AW P y s Q) Q)) : AW P (.seq x y) st Q :=
  ⟨AWr.seq (h.h.mono fun e s k => by
    cases e with
    | normal => exact AW.h k.h
    | _ => exact k.h)⟩
theorem AW.cond {o : Operand} {b : Bool} (hc : st.ev o = .d (.v (.bool b))) (ht : b = true → AW P x st Q) (hf : b = false → AW P y st Q) : AW P (.cond o x y) st Q :=
  ⟨AWr.cond hc (fun e => (ht e).h) (fun e => (hf e).h)⟩
theorem AW.block (h : AW P c st (blockA id Q)) : AW P (.block id c) st Q := ⟨AWr.block (h.h.mono fun e s k => k.h)⟩
theorem AW.region (hE : E.Ok) {ops : Array Oper} (l : List Nat) (h : awl E ops ops.toList st fun s => Q .normal (s.keep l)) : AW E.P (.region id ops false) st Q := ⟨(AWr.region hE l h).bare⟩
theorem AW.draw (hE : E.Ok) (hm : E.P.follows .mixedOrders = true) {ops : Array Oper} (B : List Nat) (hB : bitsOk ops B = true) (l : List Nat) (h : awd E ops B st fun s => Q .normal (s.keep l)) : AW E.P (.region id ops true) st Q := ⟨(AWr.draw hE hm B hB l h).bare⟩
end
theorem good_body {E : Env} {f : FuncId} {fn : Func} {c : Code} {nt : Nat} {rs : Array ResultVar} (hf : E.P.funcs[f]? = some fn) (hb : fn.body = some c) (hnt : fn.ntmps = nt) (hrs : fn.results = rs) {Sp : List D → Out → Prop}
    (h : ∀ ds out, Sp ds out → ds.length ≤ nt ∧ AW E.P c ⟨tmOf 0 ds, [], nt⟩ (Ends E.P rs out)) : Good E.P f Sp :=
  good_bodyr hf hb hnt hrs fun ds out hs => ⟨(h ds out hs).1, (h ds out hs).2.h.full⟩
theorem AW.reg {E : Env} (hE : E.Ok) {id : Nat} {ops : Array Oper} {st : St} {Q : Exit → St → Prop} (l : List Nat) (h : ∀ K : St → Prop, (∀ s, Q .normal s → K s) → awl E ops ops.toList st fun s => K (s.keep l)) : AW E.P (.region id ops false) st Q :=
  AW.region hE l (h _ fun _ h => h)
structure Awl (E : Env) (ops : Array Oper) (l : List Oper) (st : St) (K : St → Prop) : Prop where
  h : awl E ops l st K
theorem AW.regl {E : Env} (hE : E.Ok) {id : Nat} {ops : Array Oper} {st : St} {Q : Exit → St → Prop} (l : List Nat) (h : Awl E ops ops.toList st fun s => Q .normal (s.keep l)) : AW E.P (.region id ops false) st Q :=
  AW.region hE l h.h
def gvt (ops : Array Oper) (j : Nat) : Option Tmp := match ops[j]? with | some o => o.dst | none => none
def dOkb (d : Option Tmp) (nt : Nat) : Bool := match d with | some k => Nat.blt k nt | none => true
theorem dOkb_ok {d : Option Tmp} {nt : Nat} (h : dOkb d nt = true) : dOk d nt := by
  cases d with
  | none => trivial
  | some k => simpa [dOkb, dOk] using h
section
variable {E : Env} {ops : Array Oper} {o : Oper} {r : List Oper} {st : St} {K : St → Prop}
theorem awl_nil (h : K st) : Awl E ops [] st K := ⟨h⟩
theorem awl_none (hg : o.guard = none) (h : ∀ K' : V → List (Nat × Ob) → Prop, (∀ x u, Awl E ops r (st.upd o.dst x u) K → K' x u) → evk E o st K') : Awl E ops (o :: r) st K := by
  refine ⟨?_⟩
  simp only [awl, ev1, hg]; exact h _ fun _ _ h => h.h
theorem awl_some {j : Nat} {want b : Bool} {t : Tmp} (hg : o.guard = some (j, want)) (ht : gvt ops j = some t) (htn : t < st.nt) (hb : gt st.tm t = .d (.v (.bool b))) (hd : dOkb o.dst st.nt = true)
    (h1 : b = want → ∀ K' : V → List (Nat × Ob) → Prop, (∀ x u, Awl E ops r (st.upd o.dst x u) K → K' x u) → evk E o st K') (h2 : b = !want → Awl E ops r (st.upd o.dst (.d (.v undef)) []) K) : Awl E ops (o :: r) st K := by
  have hv : gv ops st j = some (some b) := by
    unfold gvt at ht
    unfold gv
    split at ht
    · rename_i q hq
      simp only [hq, ht, if_pos htn, hb]
    · cases ht
  refine ⟨?_⟩
  simp only [awl, ev1, hg, hv]
  exact ⟨fun e => h1 e _ fun _ _ h => h.h, fun e => ⟨dOkb_ok hd, (h2 e).h⟩⟩
end
theorem AW.regd {E : Env} (hE : E.Ok) (hm : E.P.follows .mixedOrders = true) {id : Nat} {ops : Array Oper} {st : St} {Q : Exit → St → Prop} (B : List Nat) (hB : bitsOk ops B = true) (l : List Nat)
    (h : ∀ K : St → Prop, (∀ s, Q .normal s → K s) → awd E ops B st fun s => K (s.keep l)) : AW E.P (.region id ops true) st Q :=
  AW.draw hE hm B hB l (h _ fun _ h => h)
section
variable {next : St → Prop} {Q : Exit → St → Prop} {s : St} {i id : Nat}
theorem then_n (h : next s) : thenA next Q .normal s := ⟨h⟩
theorem then_x (h : Q (.exit i) s) : thenA next Q (.exit i) s := ⟨h⟩
theorem then_r (h : Q .ret s) : thenA next Q .ret s := ⟨h⟩
theorem block_x (h : Q .normal s) : blockA id Q (.exit id) s := ⟨by simp only [blockR, if_true]; exact h⟩
theorem block_o (hi : i ≠ id) (h : Q (.exit i) s) : blockA id Q (.exit i) s := ⟨by simp only [blockR, if_neg hi]; exact h⟩
theorem block_n (h : Q .normal s) : blockA id Q .normal s := ⟨h⟩
theorem block_r (h : Q .ret s) : blockA id Q .ret s := ⟨h⟩
end
/-- A loop: states by an index; ρ: the names of what is owned, as they were. -/
theorem AW.loop_wk {P : Program} {c : Code} {st : St} {Q : Exit → St → Prop} {ι : Type} (S : ι → St) (G : ι → Prop) (μ : ι → Nat) (i0 : ι) (g0 : G i0) (h0 : ∀ w0 oa a w, SR w0 oa st a w → SR w0 oa (S i0) a w)
    (round : ∀ i, G i → AW P c (S i) (thenA (fun s => ∃ j, G j ∧ μ j < μ i ∧ ∃ ρ, Wk ρ s (S j)) Q)) : AW P (.loop c) st Q :=
  ⟨AWr.loop S G μ i0 g0 h0 fun i hi => (round i hi).h.mono fun e s h => by
    cases e with
    | normal => obtain ⟨j, h1, h2, ρ, h3⟩ := h.h; exact ⟨j, h1, h2, fun w0 oa a w hs => h3.sr hs⟩
    | _ => exact h.h⟩
/-- A state in the middle. -/
theorem AW.mid {P : Program} {x y : Code} {st : St} {Q : Exit → St → Prop} (st' : St) (h1 : AW P x st fun e s => e = .normal ∧ ∃ ρ, Wk ρ s st') (h2 : AW P y st' Q) : AW P (.seq x y) st Q :=
  AW.seq (h1.mono fun e s h => by
    obtain ⟨rfl, ρ, hw⟩ := h
    exact then_n ⟨fun w0 oa a w hs => h2.h w0 oa a w (hw.sr hs)⟩)
/-- States in the middle, by an index. -/
theorem AW.midx {P : Program} {x y : Code} {st : St} {Q : Exit → St → Prop} {ι : Type} (S : ι → St) (G : ι → Prop) (h1 : AW P x st fun e s => e = .normal ∧ ∃ i, G i ∧ ∃ ρ, Wk ρ s (S i)) (h2 : ∀ i, G i → AW P y (S i) Q) : AW P (.seq x y) st Q :=
  AW.seq (h1.mono fun e s h => by
    obtain ⟨rfl, i, hg, ρ, hw⟩ := h
    exact then_n ⟨fun w0 oa a w hs => (h2 i hg).h w0 oa a w (hw.sr hs)⟩)
/-- A slice that is nil, as a row of the call's own. -/
theorem nil_sr {w0 w : World} {oa : Nat → Prop} {st : St} {a : Act} (k n e sz : Nat) (hk : gt st.tm k = .nil) (hkn : k < st.nt) (hn : go st.hp n = none) (hsz : 0 < sz) (hs : SR w0 oa st a w) : SR w0 oa (st.upd (some k) (.sl n sz 0 0 true) [(n, .row e sz [])]) a w := by
  obtain ⟨φ, hs⟩ := hs.open
  have hv := hs.tm k
  rw [hk] at hv
  have hv0 : a.tmps.getD k undef = .slice none 0 0 := by
    generalize a.tmps.getD k undef = X at hv
    cases hv; rfl
  obtain ⟨φ', hs', hv'⟩ := hs.newrow n hn e sz [] (.slice none 0 0) [] hsz (Below.refl _ _) (World.ownsRow_nil w w.heap.size e sz) Rw.nil
  have hput := hs'.put (some k) hkn hv'
  have hsame : a.put (some k) (.slice none 0 0) = a := by
    have hlt : k < a.tmps.size := by rw [hs.sz]; exact hkn
    have hget : a.tmps.getD k undef = a.tmps[k] := by simp [Array.getD_eq_getD_getElem?, hlt]
    have : a.tmps.setIfInBounds k (.slice none 0 0) = a.tmps := by
      apply Array.ext
      · simp
      · intro i h1 h2
        rw [Array.getElem_setIfInBounds]
        split
        · rename_i e
          subst e
          rw [← hv0, hget]
        · rfl
    simp only [Act.put, this]
  rw [hsame] at hput
  exact hput.sr
def wkTm (ρ : Nat → Nat) (tm : List (Nat × V)) (dom : Nat → Prop) : List (Nat × V) → Prop
  | [] => True
  | (k, x) :: r => (match x with | .junk => True | x => gt tm k = ren ρ x ∧ va tt dom x) ∧ wkTm ρ tm dom r
def subL (ρ : Nat → Nat) (hp : List (Nat × Ob)) (dom : Nat → Prop) : List (Nat × Ob) → Prop
  | [] => True
  | p :: r => (go hp (ρ p.1) = some (renO ρ p.2) ∧ vaO tt dom p.2) ∧ subL ρ hp dom r
def ninL (ρ : Nat → Nat) (k : Nat) : List (Nat × Ob) → Prop
  | [] => True
  | p :: r => ρ k ≠ ρ p.1 ∧ ninL ρ k r
def injL (ρ : Nat → Nat) : List (Nat × Ob) → Prop
  | [] => True
  | p :: r => ninL ρ p.1 r ∧ injL ρ r
theorem ninL_get {ρ : Nat → Nat} {k : Nat} : ∀ {l : List (Nat × Ob)}, ninL ρ k l → ∀ p ∈ l, ρ k ≠ ρ p.1
  | [], _, p, hp => by cases hp
  | q :: r, h, p, hm => (List.mem_cons.1 hm).elim (fun e => by rw [e]; exact h.1) (fun hm2 => ninL_get h.2 p hm2)
theorem injL_get {ρ : Nat → Nat} : ∀ {l : List (Nat × Ob)}, injL ρ l → ∀ p ∈ l, ∀ q ∈ l, ρ p.1 = ρ q.1 → p.1 = q.1
  | [], _, p, hp, _, _, _ => by cases hp
  | x :: r, h, p, hp, q, hq, he => by
    rcases List.mem_cons.1 hp with e1 | hp2
    · rcases List.mem_cons.1 hq with e2 | hq2
      · rw [e1, e2]
      · subst e1; exact absurd he (ninL_get h.1 q hq2)
    · rcases List.mem_cons.1 hq with e2 | hq2
      · subst e2; exact absurd he.symm (ninL_get h.1 p hp2)
      · exact injL_get h.2 p hp2 q hq2 he
theorem subL_get {ρ : Nat → Nat} {hp : List (Nat × Ob)} {dom : Nat → Prop} : ∀ {l : List (Nat × Ob)}, subL ρ hp dom l → ∀ p ∈ l, go hp (ρ p.1) = some (renO ρ p.2) ∧ vaO tt dom p.2
  | [], _, p, hp => by cases hp
  | q :: r, h, p, hp => by
    rcases List.mem_cons.1 hp with rfl | hp
    · exact h.1
    · exact subL_get h.2 p hp
theorem wkTm_get {ρ : Nat → Nat} {tm : List (Nat × V)} {dom : Nat → Prop} : ∀ {l : List (Nat × V)}, wkTm ρ tm dom l → ∀ p ∈ l, p.2 = .junk ∨ (gt tm p.1 = ren ρ p.2 ∧ va tt dom p.2)
  | [], _, p, hp => by cases hp
  | (k, x) :: r, h, p, hp => by
    rcases List.mem_cons.1 hp with rfl | hp
    · have h1 := h.1
      cases x with
      | junk => exact .inl rfl
      | _ => exact .inr h1
    · exact wkTm_get h.2 p hp
theorem Wk.of {ρ : Nat → Nat} {st st' : St} (h : st'.nt = st.nt ∧ wkTm ρ st.tm (inDom st'.hp) st'.tm ∧ subL ρ st.hp (inDom st'.hp) st'.hp ∧ injL ρ st'.hp) : Wk ρ st st' :=
  ⟨h.1, wkTm_get h.2.1, ⟨subL_get h.2.2.1, injL_get h.2.2.2⟩⟩
theorem Ends.of {P : Program} {rs : Array ResultVar} {out : Out} {e : Exit} {st : St} (ρ : Nat → Nat) (he : e = .normal ∨ e = .ret) (h : resW P st rs = some (ren ρ out.val) ∧ va tt (inDom out.obs) out.val ∧ subL ρ st.hp (inDom out.obs) out.obs ∧ injL ρ out.obs) : Ends P rs out e st :=
  ⟨he, ρ, h.1, h.2.1, ⟨subL_get h.2.2.1, injL_get h.2.2.2⟩⟩

/-! ### words -/
theorem wrap_id (x : Int) (h0 : -9223372036854775808 ≤ x) (h1 : x < 9223372036854775808) : IntKind.i64.wrap x = x := by rw [IntKind.wrap_i64]; omega
/-- A name by a list. -/
def nm : List (Nat × Nat) → Nat → Nat
  | [], k => k
  | (a, b) :: r, k => if k = a then b else nm r k
def mB (n : Int) : D := .v (.int .u8 n)
def mI (n : Int) : D := .v (.int .i64 n)
def bys (l : List Int) : D := .list (l.map mB)
theorem mB_cells (n : Int) : (mB n).cells = [mB n] := rfl
theorem mI_cells (n : Int) : (mI n).cells = [mI n] := rfl
theorem bys_cells (l : List Int) : (bys l).cells = [bys l] := rfl
theorem list_cells (l : List D) : (D.list l).cells = [D.list l] := rfl
theorem v_cells (x : Value) : (D.v x).cells = [D.v x] := rfl
theorem agg_cells (l : List D) : (D.agg l).cells = l := rfl
theorem ref_cells (d : D) : (D.ref d).cells = [D.ref d] := rfl
theorem mB_inj (l m : List Int) : (l.map mB = m.map mB) = (l = m) := by
  simp only [eq_iff_iff]
  exact ⟨fun h => by
    have := congrArg (List.map fun d : D => match d with | .v (.int _ n) => n | _ => 0) h
    simpa [List.map_map, Function.comp_def, mB] using this, fun h => by rw [h]⟩
theorem mI_inj (l m : List Int) : (l.map mI = m.map mI) = (l = m) := by
  simp only [eq_iff_iff]
  exact ⟨fun h => by
    have := congrArg (List.map fun d : D => match d with | .v (.int _ n) => n | _ => 0) h
    simpa [List.map_map, Function.comp_def, mI] using this, fun h => by rw [h]⟩
theorem list_map_inj {α : Type} (f : α → D) (hf : ∀ a b, f a = f b → a = b) (l m : List α) : (l.map f = m.map f) = (l = m) := by
  simp only [eq_iff_iff]
  refine ⟨fun h => ?_, fun h => by rw [h]⟩
  induction l generalizing m with
  | nil => cases m with | nil => rfl | cons _ _ => simp at h
  | cons a r ih => cases m with
    | nil => simp at h
    | cons b s =>
      simp only [List.map_cons, List.cons.injEq] at h
      rw [hf a b h.1, ih s h.2]
theorem bys_inj (l m : List Int) : (bys l = bys m) = (l = m) := by
  unfold bys
  rw [D.list.injEq, mB_inj]
theorem byL_B (l : List Int) : byL (l.map mB) = some l := by
  induction l with
  | nil => rfl
  | cons a r ih => simp only [List.map_cons, mB, byL]; rw [ih]; rfl
theorem if_le {α : Type} {a b : Nat} (h : a ≤ b) (x y : α) : (if a ≤ b then x else y) = x := if_pos h
theorem bb_tt : (true == true) = true := rfl
theorem bb_ff : (false == false) = true := rfl
theorem bb_tf : (true == false) = false := rfl
theorem bb_ft : (false == true) = false := rfl
theorem byL_nil : byL [] = some [] := rfl
theorem byt_str {l m : List Int} (hl : ∀ x ∈ l, 0 ≤ x ∧ x < 256) (hm : ∀ x ∈ m, 0 ≤ x ∧ x < 256) : binV .eql (bsV l) (bsV m) = some (.bool (decide (l = m))) := by
  have key : ∀ (l : List Int) (s : ByteArray), (l.foldl (fun r n => r.push (UInt8.ofNat n.toNat)) s).data.toList = s.data.toList ++ l.map fun n => UInt8.ofNat n.toNat := by
    intro l
    induction l with
    | nil => simp
    | cons a r ih => intro s; rw [List.foldl_cons, ih]; simp [ByteArray.push]
  have inj : ∀ (l m : List Int), (∀ x ∈ l, 0 ≤ x ∧ x < 256) → (∀ x ∈ m, 0 ≤ x ∧ x < 256) → ((l.map fun n => UInt8.ofNat n.toNat) = (m.map fun n => UInt8.ofNat n.toNat)) → l = m := by
    intro l
    induction l with
    | nil => intro m _ _ h; cases m with | nil => rfl | cons b s => simp at h
    | cons a r ih =>
      intro m hl hm h
      cases m with
      | nil => simp at h
      | cons b s =>
        simp only [List.map_cons, List.cons.injEq] at h
        have ha := hl a (List.mem_cons_self ..)
        have hb := hm b (List.mem_cons_self ..)
        have e : a = b := by
          have e2 := congrArg UInt8.toNat h.1
          simp only [UInt8.toNat_ofNat'] at e2
          omega
        rw [e, ih s (fun x hx => hl x (List.mem_cons_of_mem _ hx)) (fun x hx => hm x (List.mem_cons_of_mem _ hx)) h.2]
  have e : ∀ s : ByteArray, s.toList = s.data.toList := Go.ByteArray.toList_eq
  simp only [bsV, binV]
  congr 2
  rw [Bool.eq_iff_iff]
  simp only [beq_iff_eq, decide_eq_true_eq, e, key]
  constructor
  · intro h
    exact inj l m hl hm (by simpa using h)
  · rintro rfl; rfl
theorem nth_map {α : Type} (f : α → D) (l : List α) (i : Nat) (d : α) (h : i < l.length) : nth (l.map f) i = f (l.getD i d) := by
  simp [nth, List.getD_eq_getElem?_getD, h]
theorem nth_B (l : List Int) (i : Nat) (h : i < l.length) : nth (l.map mB) i = .v (.int .u8 (l.getD i 0)) := nth_map mB l i 0 h
theorem nth_I (l : List Int) (i : Nat) (h : i < l.length) : nth (l.map mI) i = .v (.int .i64 (l.getD i 0)) := nth_map mI l i 0 h
theorem all_B (l : List Int) : (∀ d ∈ l.map mB, d.cells.length = 1) = True := by simp [mB_cells]
theorem all_I (l : List Int) : (∀ d ∈ l.map mI, d.cells.length = 1) = True := by simp [mI_cells]
theorem sc_B (l : List Int) : (∀ d ∈ l.map mB, Scal' d) = True := by simp only [eq_iff_iff, iff_true]; intro d hd; obtain ⟨n, _, rfl⟩ := List.mem_map.1 hd; exact .v _
theorem sc_I (l : List Int) : (∀ d ∈ l.map mI, Scal' d) = True := by simp only [eq_iff_iff, iff_true]; intro d hd; obtain ⟨n, _, rfl⟩ := List.mem_map.1 hd; exact .v _
theorem sc_v (x : Value) : Scal' (.v x) = True := by simp only [eq_iff_iff, iff_true]; exact .v _
theorem set_B (l : List Int) (i : Nat) (n : Int) : (l.map mB).set i (.v (.int .u8 n)) = (l.set i n).map mB := by rw [List.map_set]; rfl
theorem set_I (l : List Int) (i : Nat) (n : Int) : (l.map mI).set i (.v (.int .i64 n)) = (l.set i n).map mI := by rw [List.map_set]; rfl
theorem repl_B (n : Nat) (x : Int) : List.replicate n (D.v (.int .u8 x)) = (List.replicate n x).map mB := by rw [List.map_replicate]; rfl
theorem repl_I (n : Nat) (x : Int) : List.replicate n (D.v (.int .i64 x)) = (List.replicate n x).map mI := by rw [List.map_replicate]; rfl
theorem cons_B (x : Int) (l : List Int) : D.v (.int .u8 x) :: l.map mB = (x :: l).map mB := rfl
theorem cons_I (x : Int) (l : List Int) : D.v (.int .i64 x) :: l.map mI = (x :: l).map mI := rfl
theorem c_t (b : Bool) (A B : Prop) : ((b = true → A) ∧ (b = !true → B)) = (if b = true then A else B) := by cases b <;> simp
theorem c_f (b : Bool) (A B : Prop) : ((b = false → A) ∧ (b = !false → B)) = (if b = true then B else A) := by cases b <;> simp
theorem c_p (b : Bool) (A B : Prop) : ((b = true → A) ∧ (b = false → B)) = (if b = true then A else B) := by cases b <;> simp
theorem ite_intro {c : Prop} [Decidable c] {A B : Prop} (h : c → A) (k : ¬ c → B) : if c then A else B := by
  by_cases hc : c
  · rw [if_pos hc]; exact h hc
  · rw [if_neg hc]; exact k hc
theorem ifc_nil {α : Type} (b : Bool) (h : List α) : ifc b [] h = h := rfl
theorem gt_ifc (b : Bool) (d : Option Tmp) (x : V) (h : List (Nat × V)) (j : Nat) : gt (ifc b (dl d x) h) j = if some j = d then (if b = true then x else gt h j) else gt h j := by
  cases b with
  | true => rw [ifc_true, gt_dl]; rfl
  | false => rw [ifc_false]; simp
theorem go_ifc (b : Bool) (u h : List (Nat × Ob)) (j : Nat) : go (ifc b u h) j = if b = true then (go u j).or (go h j) else go h j := by
  cases b with
  | true => rw [ifc_true, go_app]; cases go u j <;> rfl
  | false => rw [ifc_false]; rfl
theorem tt_eq (d : D) : tt d = True := by simp only [tt]
theorem shr_eq (a : Int) (n : Nat) : a.fdiv (2 ^ n) = a / 2 ^ n := Int.fdiv_eq_ediv_of_nonneg _ (Int.pow_nonneg (by decide))
section
variable (k : IntKind) (a b : Int)
theorem b_add : binV .add (.int k a) (.int k b) = some (.int k (k.wrap (a + b))) := by simp [binV]
theorem b_sub : binV .sub (.int k a) (.int k b) = some (.int k (k.wrap (a - b))) := by simp [binV]
theorem b_mul : binV .mul (.int k a) (.int k b) = some (.int k (k.wrap (a * b))) := by simp [binV]
theorem b_quo (h : b ≠ 0) : binV .quo (.int k a) (.int k b) = some (.int k (k.wrap (a.tdiv b))) := by simp [binV, h]
theorem b_rem (h : b ≠ 0) : binV .rem (.int k a) (.int k b) = some (.int k (a.tmod b)) := by simp [binV, h]
theorem b_and : binV .and (.int k a) (.int k b) = some (.int k (bits .and k a b)) := by simp [binV]
theorem b_or : binV .or (.int k a) (.int k b) = some (.int k (bits .or k a b)) := by simp [binV]
theorem b_xor : binV .xor (.int k a) (.int k b) = some (.int k (bits .xor k a b)) := by simp [binV]
theorem b_eql : binV .eql (.int k a) (.int k b) = some (.bool (decide (a = b))) := by simp [binV]
theorem b_neq : binV .neq (.int k a) (.int k b) = some (.bool (decide (a ≠ b))) := by simp [binV]
theorem b_lss : binV .lss (.int k a) (.int k b) = some (.bool (decide (a < b))) := by simp [binV]
theorem b_leq : binV .leq (.int k a) (.int k b) = some (.bool (decide (a ≤ b))) := by simp [binV]
theorem b_gtr : binV .gtr (.int k a) (.int k b) = some (.bool (decide (b < a))) := by simp [binV]
theorem b_geq : binV .geq (.int k a) (.int k b) = some (.bool (decide (b ≤ a))) := by simp [binV]
theorem b_shr (j : IntKind) (h0 : 0 ≤ b) (h1 : b ≤ k.bits) : binV .shr (.int k a) (.int j b) = some (.int k (a / 2 ^ b.toNat)) := by
  have : min b.toNat k.bits = b.toNat := by omega
  simp [binV, h0, this, shr_eq]
theorem b_shl (j : IntKind) (h0 : 0 ≤ b) (h1 : b ≤ k.bits) : binV .shl (.int k a) (.int j b) = some (.int k (k.wrap (a * 2 ^ b.toNat))) := by
  have : min b.toNat k.bits = b.toNat := by omega
  simp [binV, h0, this]
end
theorem b_shr_u64 (a b : Int) (j : IntKind) (h0 : 0 ≤ b) (h1 : b ≤ 64) : binV .shr (.int .u64 a) (.int j b) = some (.int .u64 (a / 2 ^ b.toNat)) := b_shr .u64 a b j h0 h1
theorem b_shl_u64 (a b : Int) (j : IntKind) (h0 : 0 ≤ b) (h1 : b ≤ 64) : binV .shl (.int .u64 a) (.int j b) = some (.int .u64 (IntKind.u64.wrap (a * 2 ^ b.toNat))) := b_shl .u64 a b j h0 h1
theorem b_shr_i64 (a b : Int) (j : IntKind) (h0 : 0 ≤ b) (h1 : b ≤ 64) : binV .shr (.int .i64 a) (.int j b) = some (.int .i64 (a / 2 ^ b.toNat)) := b_shr .i64 a b j h0 h1
theorem b_shl_i64 (a b : Int) (j : IntKind) (h0 : 0 ≤ b) (h1 : b ≤ 64) : binV .shl (.int .i64 a) (.int j b) = some (.int .i64 (IntKind.i64.wrap (a * 2 ^ b.toNat))) := b_shl .i64 a b j h0 h1
theorem b_shr_u32 (a b : Int) (j : IntKind) (h0 : 0 ≤ b) (h1 : b ≤ 32) : binV .shr (.int .u32 a) (.int j b) = some (.int .u32 (a / 2 ^ b.toNat)) := b_shr .u32 a b j h0 h1
theorem b_shl_u32 (a b : Int) (j : IntKind) (h0 : 0 ≤ b) (h1 : b ≤ 32) : binV .shl (.int .u32 a) (.int j b) = some (.int .u32 (IntKind.u32.wrap (a * 2 ^ b.toNat))) := b_shl .u32 a b j h0 h1
theorem b_shr_u8 (a b : Int) (j : IntKind) (h0 : 0 ≤ b) (h1 : b ≤ 8) : binV .shr (.int .u8 a) (.int j b) = some (.int .u8 (a / 2 ^ b.toNat)) := b_shr .u8 a b j h0 h1
theorem b_shl_u8 (a b : Int) (j : IntKind) (h0 : 0 ≤ b) (h1 : b ≤ 8) : binV .shl (.int .u8 a) (.int j b) = some (.int .u8 (IntKind.u8.wrap (a * 2 ^ b.toNat))) := b_shl .u8 a b j h0 h1
theorem wrap_u8 (x : Int) : IntKind.u8.wrap x = x % 256 := by simp [IntKind.wrap, IntKind.bits, IntKind.signed]
theorem wrap_u32 (x : Int) : IntKind.u32.wrap x = x % 4294967296 := by simp [IntKind.wrap, IntKind.bits, IntKind.signed]
theorem wrap_u64 (x : Int) : IntKind.u64.wrap x = x % 18446744073709551616 := by simp [IntKind.wrap, IntKind.bits, IntKind.signed]
theorem bits_u64 : IntKind.u64.bits = 64 := rfl
theorem bits_u32 : IntKind.u32.bits = 32 := rfl
theorem bits_i64 : IntKind.i64.bits = 64 := rfl
theorem bits_u8 : IntKind.u8.bits = 8 := rfl
end Go.Proofs.Ytljohhinokaklaa.Am
