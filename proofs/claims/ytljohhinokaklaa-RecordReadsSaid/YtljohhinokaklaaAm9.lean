/- The abstract machine, part 9: appends, copies. -/
import Derived.Test.YtljohhinokaklaaAm8
set_option linter.unusedVariables false
set_option linter.unusedSimpArgs false
namespace Go.Proofs.Ytljohhinokaklaa.Am
open Go Go.RowKit

/-- What an append takes from: nothing, or cells that are there. -/
theorem src_open {w0 w : World} {oa : Nat → Prop} {φ : Nat → Option Value} {hp : List (Nat × Ob)} (hr : HR w0 oa φ (go hp) w) {x : V} {y : Value} (hv : VR φ w (okB w0 oa φ (go hp) w) x y) {l : List D} (h : elems hp x = some l) {sz : Nat} (hsz : 0 < sz) (hc : ∀ d ∈ l, d.cells.length = sz) :
    ∃ A c, y = .slice A l.length c ∧ ((l = [] ∧ A = none) ∨ ∃ (ad : Addr) (news : List Value), A = some ad ∧ (∀ j u, news[j]? = some u → w.cell? (ad.add j) = some u) ∧ Rw w (okB w0 oa φ (go hp) w) sz l news) := by
  have main : ∀ (ok' : Nat → Prop), Rd w ok' (.list l) y → (∀ (b o c : Nat) (vals : Nat → Value), y = .slice (some ⟨b, o, none⟩) l.length c → (∀ (i j : Nat) (d x : D), l[i]? = some d → d.cells[j]? = some x → Rd w ok' x (vals (i * sz + j))) → ∀ (i j : Nat) (d x : D), l[i]? = some d → d.cells[j]? = some x → Rd w (okB w0 oa φ (go hp) w) x (vals (i * sz + j))) →
      ∃ A c, y = .slice A l.length c ∧ ((l = [] ∧ A = none) ∨ ∃ (ad : Addr) (news : List Value), A = some ad ∧ (∀ j u, news[j]? = some u → w.cell? (ad.add j) = some u) ∧ Rw w (okB w0 oa φ (go hp) w) sz l news) := by
    intro ok' hrd hback
    cases hrd with
    | nil A c =>
      refine ⟨A, c, rfl, ?_⟩
      cases A with
      | none => exact .inl ⟨rfl, rfl⟩
      | some ad => exact .inr ⟨ad, [], rfl, by simp, Rw.nil⟩
    | list _ sz' b o c vals hlc hok hs hd hvv h1 hh =>
      by_cases hl : l = []
      · subst hl
        exact ⟨_, c, rfl, .inr ⟨_, [], rfl, by simp, Rw.nil⟩⟩
      · obtain ⟨d0, hd0⟩ := List.exists_mem_of_ne_nil l hl
        obtain rfl : sz' = sz := by rw [← hd d0 hd0, hc d0 hd0]
        refine ⟨_, c, rfl, .inr ⟨_, (List.range (l.length * sz')).map vals, rfl, fun j u hu => ?_, by simp, fun u hu => ?_, hc, fun i j d x u hd' hx hu => ?_⟩⟩
        · rw [List.getElem?_map] at hu
          obtain ⟨k, hk, rfl⟩ := Option.map_eq_some_iff.1 hu
          have hj : j < l.length * sz' := by simpa using (List.getElem?_eq_some_iff.1 hk).1
          rw [List.getElem?_range hj] at hk
          cases hk
          rw [Addr.add_lit]
          exact hvv j hj
        · simp only [List.mem_map, List.mem_range] at hu
          obtain ⟨k, hk, rfl⟩ := hu
          exact h1 k hk
        · have hj : j < sz' := by rw [← hc d (List.mem_of_getElem? hd')]; exact (List.getElem?_eq_some_iff.1 hx).1
          have hi : i < l.length := (List.getElem?_eq_some_iff.1 hd').1
          have hlt : i * sz' + j < l.length * sz' := by
            calc i * sz' + j < i * sz' + sz' := by omega
              _ = (i + 1) * sz' := by rw [Nat.add_mul, Nat.one_mul]
              _ ≤ l.length * sz' := Nat.mul_le_mul_right _ hi
          simp [hlt] at hu
          subst hu
          exact hback b o c vals rfl hh i j d x hd' hx
  cases x with
  | d x =>
    cases x with
    | list l' =>
      simp only [elems, Option.some.injEq] at h
      subst h
      cases hv with
      | d _ _ hv => exact main _ hv (fun _ _ _ _ _ h => h)
    | _ => simp [elems] at h
  | nil =>
    simp only [elems, Option.some.injEq] at h
    subst h
    cases hv
    exact ⟨none, 0, rfl, .inl ⟨rfl, rfl⟩⟩
  | sl id sz' off len full =>
    simp only [elems] at h
    split at h
    · rename_i e sz2 l2 hg
      split at h
      · rename_i hcond
        obtain ⟨rfl, hle⟩ := hcond
        simp only [Option.some.injEq] at h
        subst h
        obtain ⟨u, cs, hu, hszp, ho, hrw⟩ := hr.obj id _ hg
        cases hv with
        | sl _ _ _ _ _ u' A c hid hlc hf ha =>
          obtain rfl : u = u' := Option.some.inj (hu.symm.trans hid)
          have hlen : ((l2.drop off).take len).length = len := by rw [List.length_take, List.length_drop]; omega
          refine ⟨A, c, by rw [hlen], ?_⟩
          by_cases h0 : len = 0
          · subst h0
            rw [List.take_zero]
            cases A with
            | none => exact .inl ⟨rfl, rfl⟩
            | some ad => exact .inr ⟨ad, [], rfl, by simp, Rw.nil⟩
          · rcases ha with ha | ⟨b, n, cap, rfl, rfl⟩
            · exact absurd ha h0
            · have hcell := ho.cells (g := b) rfl
              have hne : (l2.drop off).take len ≠ [] := fun he => by rw [he] at hlen; simp at hlen; omega
              obtain ⟨d0, hd0⟩ := List.exists_mem_of_ne_nil _ hne
              have hszz : sz' = sz := by rw [← hrw.2.2.1 d0 (List.mem_of_mem_drop (List.mem_of_mem_take hd0)), hc d0 hd0]
              subst hszz
              refine .inr ⟨_, (cs.drop (off * sz')).take (len * sz'), rfl, fun j u hu => ?_, ?_, fun u hu => hrw.2.1 u (List.mem_of_mem_drop (List.mem_of_mem_take hu)), hc, fun i j d x u hd' hx hu => ?_⟩
              · rw [List.getElem?_take] at hu
                split at hu
                · rw [List.getElem?_drop] at hu
                  have := hcell _ u hu
                  rw [Addr.add_lit, Nat.zero_add] at this
                  rw [Addr.add_lit]
                  exact this
                · cases hu
              · rw [hlen, List.length_take, List.length_drop, hrw.1]
                have : (off + len) * sz' ≤ l2.length * sz' := Nat.mul_le_mul_right _ hle
                rw [Nat.add_mul] at this
                omega
              · rw [List.getElem?_take] at hd' hu
                split at hd'
                · split at hu
                  · rw [List.getElem?_drop] at hd' hu
                    refine hrw.2.2.2 (off + i) j d x u hd' hx ?_
                    rw [Nat.add_mul, Nat.add_assoc]
                    exact hu
                  · cases hu
                · cases hd'
      · cases h
    · cases h
  | _ => simp [elems] at h
theorem Rw.app {w : World} {ok : Nat → Prop} {sz : Nat} {l m : List D} {cs ds : List Value} (h : Rw w ok sz l cs) (k : Rw w ok sz m ds) : Rw w ok sz (l ++ m) (cs ++ ds) := by
  refine ⟨by rw [List.length_append, h.1, k.1, List.length_append, Nat.add_mul], fun u hu => (List.mem_append.1 hu).elim (h.2.1 u) (k.2.1 u), fun d hd => (List.mem_append.1 hd).elim (h.2.2.1 d) (k.2.2.1 d), fun i j d x u hd hx hu => ?_⟩
  by_cases hi : i < l.length
  · rw [List.getElem?_append_left hi] at hd
    have hj : j < sz := by rw [← h.2.2.1 d (List.mem_of_getElem? hd)]; exact (List.getElem?_eq_some_iff.1 hx).1
    have hlt : i * sz + j < cs.length := by
      rw [h.1]
      calc i * sz + j < i * sz + sz := by omega
        _ = (i + 1) * sz := by rw [Nat.add_mul, Nat.one_mul]
        _ ≤ l.length * sz := Nat.mul_le_mul_right _ hi
    rw [List.getElem?_append_left hlt] at hu
    exact h.2.2.2 i j d x u hd hx hu
  · rw [List.getElem?_append_right (by omega)] at hd
    have hle : cs.length ≤ i * sz + j := by
      rw [h.1]
      exact Nat.le_trans (Nat.mul_le_mul_right _ (by omega : l.length ≤ i)) (Nat.le_add_right _ _)
    rw [List.getElem?_append_right hle] at hu
    have e : i * sz + j - cs.length = (i - l.length) * sz + j := by
      rw [h.1, Nat.sub_mul]
      have : l.length * sz ≤ i * sz := Nat.mul_le_mul_right _ (by omega)
      omega
    rw [e] at hu
    exact k.2.2.2 _ j d x u hd hx hu
/-- The row of an append: in place, or elsewhere. -/
theorem HR.grow {w0 w w' : World} {oa : Nat → Prop} {φ : Nat → Option Value} {hp : List (Nat × Ob)} (h : HR w0 oa φ (go hp) w) {id n e sz e' sz' : Nat} {l l' : List D} (hg : go hp id = some (.row e sz l)) (hn : go hp n = none) {u u' : Value} {cs' : List Value} (hu : φ id = some u) (hszp : 0 < sz')
    (hgr : w.grownBy w' (blk u)) (hbelow : Below w0.heap.size w0 w') (hown : w'.ownsRow w0.heap.size e' sz' u' l'.length cs') (hat : blk u' = blk u ∨ ∃ b, blk u' = some b ∧ w.heap.size ≤ b)
    (hrw : ∀ ok : Nat → Prop, (∀ b, okB w0 oa φ (go hp) w b → ok b ∧ w'.heap[b]? = w.heap[b]?) → Rw w' ok sz' l' cs') :
    HR w0 oa (upd φ n u') (go (so (so hp id .dead) n (.row e' sz' l'))) w' ∧ (∀ b, okB w0 oa φ (go hp) w b → okB w0 oa (upd φ n u') (go (so (so hp id .dead) n (.row e' sz' l'))) w' b ∧ w'.heap[b]? = w.heap[b]?) := by
  have hne0 : id ≠ n := fun e => by rw [e, hn] at hg; cases hg
  have hφn : φ n = none := h.fresh n hn
  have hφ : ∀ i v, φ i = some v → upd φ n u' i = some v := by
    intro i v hv
    unfold upd
    split
    · rename_i e; subst e; rw [hφn] at hv; cases hv
    · exact hv
  have hkeep : ∀ b, b < w.heap.size → blk u ≠ some b → w'.heap[b]? = w.heap[b]? := fun b hb hne => hgr.block b hb (Ne.symm hne)
  have hok2 : ∀ b, okB w0 oa φ (go hp) w b → okB w0 oa (upd φ n u') (go (so (so hp id .dead) n (.row e' sz' l'))) w' b ∧ w'.heap[b]? = w.heap[b]? := by
    intro b hb
    have hlt := okB_lt h.below.size hb
    have hbu : blk u ≠ some b := hb.2 id _ u hg (by simp) hu
    refine ⟨⟨?_, ?_⟩, hkeep b hlt hbu⟩
    · rcases hb.1 with h1 | h1
      · exact .inl h1
      · exact .inr ⟨h1.1, by have := hgr.size; omega⟩
    · intro i o' v ho' hne hv he
      rw [go_so, go_so] at ho'
      split at ho'
      · rename_i e
        subst e
        simp only [upd, if_true, Option.some.injEq] at hv
        subst hv
        rcases hat with h3 | ⟨b', h3, h4⟩
        · rw [h3] at he; exact hbu he
        · rw [h3] at he; cases he; omega
      · rename_i e
        split at ho'
        · cases ho'; exact hne rfl
        · simp only [upd, if_neg e] at hv
          exact hb.2 i o' v ho' hne hv he
  refine HR.step (hp' := go (so (so hp id .dead) n (.row e' sz' l'))) (φ' := upd φ n u') (w' := w') h (fun i => i = id) hgr.size hbelow (fun b hb hbb => hkeep b hb (hbb id _ u rfl hg (by simp) hu)) hφ ?_ ?_ h.has ?_ ?_
  · intro i hi
    rw [go_so, go_so] at hi
    split at hi
    · cases hi
    · rename_i e
      split at hi
      · cases hi
      · simp only [upd, if_neg e]; exact h.fresh i hi
  · intro i o' ho' hne
    rw [go_so, go_so] at ho'
    split at ho'
    · rename_i e
      subst e
      refine .inr ⟨fun v b hv hb => ?_, fun hc => by rw [hn] at hc; cases hc.1⟩
      simp only [upd, if_true, Option.some.injEq] at hv
      subst hv
      rcases hat with h3 | ⟨b', h3, h4⟩
      · exact .inr ⟨id, _, u, rfl, hg, by simp, hu, by rw [← h3]; exact hb⟩
      · rw [h3] at hb; cases hb; exact .inl h4
    · rename_i e
      split at ho'
      · cases ho'; exact absurd rfl hne
      · rename_i e2; exact .inl ⟨ho', e2⟩
  · intro i o' ho' hc
    rw [go_so, go_so] at ho'
    split at ho'
    · rename_i e
      subst e
      cases ho'
      exact ⟨u', cs', by simp [upd], hszp, hown, hrw _ hok2⟩
    · rename_i e
      split at ho'
      · cases ho'; trivial
      · rename_i e2; exact absurd ⟨ho', e2⟩ hc
  · intro i i' o1 o2 v v' ho1 ho2 hn1 hn2 hc hne hv hv'
    rw [go_so, go_so] at ho1 ho2
    split at ho1
    · rename_i e
      subst e
      rw [if_neg (Ne.symm hne)] at ho2
      split at ho2
      · cases ho2; exact absurd rfl hn2
      · rename_i e2
        simp only [upd, if_true, Option.some.injEq] at hv
        simp only [upd, if_neg (Ne.symm hne)] at hv'
        subst hv
        rcases hat with h3 | ⟨b', h3, h4⟩
        · rw [h3]
          exact h.inj id i' _ o2 u v' hg ho2 (by simp) hn2 (Ne.symm e2) hu hv'
        · refine .inr fun he => ?_
          have := (h.blk_lt ho2 hn2 hv' (he ▸ h3)).2
          omega
    · rename_i e
      split at ho1
      · cases ho1; exact absurd rfl hn1
      · rename_i e2; exact absurd ⟨ho1, e2⟩ hc
theorem blk_ownBlock {w : World} {base e sz n : Nat} {v : Value} {cs : List Value} (h : w.ownsRow base e sz v n cs) : blk v = v.ownBlock := by
  rcases h.2 with ⟨rfl, _⟩ | ⟨g, cap, cur, rfl, _⟩ <;> rfl
theorem run_append_zero {P : Program} {w : World} {base t ty e n : Nat} {i : TypeInfo} (ht : P.underlying t = some (.slice e)) (hi : P.info? e = some i) {v : Value} {xs : List Value} (hown : w.ownsRow base e i.size v n xs) (A : Option Addr) (c : Nat) :
    (Builtin.append_ #[t, t] ty #[v, .slice A 0 c]).run P w = .ok v w := by
  have hf : (Builtin.firstCells i.size 0 (.slice A 0 c)).run P w = .ok #[] w := by cases A <;> simp [Builtin.firstCells, loadCells, loadCellsFrom]
  rcases hown.2 with ⟨rfl, rfl⟩ | ⟨g, cap, cur, rfl, _, _, hnc, _⟩
  · simp [Builtin.append_, run_underlying ht, sizeOf, typeInfo, hi, Builtin.lenOf, hf]
  · simp [Builtin.append_, run_underlying ht, sizeOf, typeInfo, hi, Builtin.lenOf, hf, hnc, storeCells]
/-- An append to an own row, run. -/
theorem app_run {P : Program} {w : World} {base t ty e : Nat} {i : TypeInfo} {z : Value} (ht : P.underlying t = some (.slice e)) (hi : P.info? e = some i) (hz : i.zero = some z) (hzs : z.cells.size = i.size) (hsz : 0 < i.size) {v : Value} {n : Nat} {xs : List Value} (hown : w.ownsRow base e i.size v n xs) (hbase : base ≤ w.heap.size)
    {y : Value} {l : List D} {ok : Nat → Prop} {A : Option Addr} {c : Nat} (hy : y = .slice A l.length c) (hsrc : (l = [] ∧ A = none) ∨ ∃ (ad : Addr) (news : List Value), A = some ad ∧ (∀ j u, news[j]? = some u → w.cell? (ad.add j) = some u) ∧ Rw w ok i.size l news)
    (h63 : n + l.length ≤ maxLen) (hbytes : (n + l.length) * i.bytes ≤ 140737488355328) :
    ∃ v' w' news, (Builtin.append_ #[t, t] ty #[v, y]).run P w = .ok v' w' ∧ w'.ownsRow base e i.size v' (n + l.length) (xs ++ news) ∧ w.grownBy w' v.ownBlock ∧ (v'.ownBlock = v.ownBlock ∨ ∃ b, v'.ownBlock = some b ∧ w.heap.size ≤ b) ∧ Rw w ok i.size l news := by
  subst hy
  by_cases hl : l = []
  · subst hl
    refine ⟨v, w, [], run_append_zero ht hi hown A c, by simpa using hown, ⟨rfl, rfl, rfl, Nat.le_refl _, fun _ _ _ => rfl⟩, .inl rfl, Rw.nil⟩
  · rcases hsrc with ⟨h0, _⟩ | ⟨ad, news, rfl, hn, hrw⟩
    · exact absurd h0 hl
    · have hlen : 0 < l.length := List.length_pos_iff.2 hl
      obtain ⟨g, cap, w', hr, ho, hg, hat, _⟩ := run_append_lies (P := P) (w := w) t ty base e i z i.size i.bytes ht hi hz rfl rfl hzs hsz v n xs hown ad l.length c news hrw.1 hn hrw.2.1 hlen h63 hbytes hbase w.heap.size rfl
      refine ⟨_, w', news, hr, ho, hg, ?_, hrw⟩
      rcases hat with h1 | h1
      · exact .inl (by rw [h1]; rfl)
      · exact .inr ⟨g, rfl, by omega⟩
def e_app (P : Program) (t : TypeId) (s x : Operand) (o : Oper) (st : St) (K : V → List (Nat × Ob) → Prop) : Prop :=
  dOk o.dst st.nt ∧ match o.dst with
  | some n => go st.hp n = none ∧ match el P t with
    | some (e, sz, by') => match zc P e with
      | some z => match elems st.hp (st.ev x) with
        | some xs => 0 < sz ∧ z.length = sz ∧ (∀ d ∈ xs, d.cells.length = sz) ∧ match st.ev s with
          | .nil => xs.length ≤ 9223372036854775807 ∧ xs.length * by' ≤ 140737488355328 ∧ K (.sl n sz 0 xs.length true) [(n, (.row e sz xs))]
          | .sl id sz1 off len full => match go st.hp id with
            | some (.row e1 sz2 l) => full = true ∧ off = 0 ∧ len = l.length ∧ e1 = e ∧ sz1 = sz ∧ sz2 = sz ∧ (l.length + xs.length) ≤ 9223372036854775807 ∧ (l.length + xs.length) * by' ≤ 140737488355328 ∧
                K (.sl n sz 0 (l.length + xs.length) true) [(n, .row e sz (l ++ xs)), (id, .dead)]
            | _ => False
          | _ => False
        | none => False
      | none => False
    | none => False
  | none => False
theorem s_app {P : Program} {t : TypeId} {s x : Operand} {o : Oper} {st : St} {K : St → Prop} (ho : o.op = .call { callee := .builtin .append, args := #[s, x], argTypes := #[t, t] }) (h : e_app P t s x o st fun x ups => K (st.upd o.dst x ups)) : Does P o st K := by
  obtain ⟨hd, h⟩ := h
  split at h
  case h_2 => exact h.elim
  rename_i n hdst
  obtain ⟨hn, h⟩ := h
  split at h
  case h_2 => exact h.elim
  rename_i e sz by' he
  split at h
  case h_2 => exact h.elim
  rename_i z hz
  split at h
  case h_2 => exact h.elim
  rename_i xs hxs
  obtain ⟨hsz, hzl, hcell, h⟩ := h
  obtain ⟨inf, hu, hinf, rfl, rfl⟩ := el_open he
  obtain ⟨inf', zv, hinf', hzv, rfl⟩ := zc_open hz
  obtain rfl : inf = inf' := Option.some.inj (hinf.symm.trans hinf')
  have hzs : zv.cells.size = inf.size := by simpa using hzl
  split at h
  · rename_i hs0
    obtain ⟨h63, hby, h⟩ := h
    refine does_run fun w0 oa φ a w hs => ?_
    have e1 := hs.ev s; rw [hs0] at e1
    obtain ⟨A, c, hy, hsrc⟩ := src_open hs.hr (hs.ev x) hxs hsz hcell
    have hv0 : a.eval s = .slice none 0 0 := by
      generalize a.eval s = X at e1
      cases e1; rfl
    obtain ⟨v', w', news, hr, ho1, hgr, hat, hrw⟩ := app_run (ty := o.type) (ok := okB w0 oa φ (go st.hp) w) hu hinf hzv hzs hsz (World.ownsRow_nil w w.heap.size e inf.size) (Nat.le_refl _) hy hsrc (by simpa [maxLen] using h63) (by simpa using hby)
    simp only [Nat.zero_add, List.nil_append] at ho1
    have hbw : Below w.heap.size w w' := (Below.refl _ _).grown hgr (Nat.le_refl _) (fun k hk => by simp [Value.ownBlock] at hk)
    obtain ⟨φ', hs', hv⟩ := hs.newrow n hn e inf.size xs v' news hsz hbw ho1 (hrw.mono (fun b hb => hbw.block b (okB_lt hs.hr.below.size hb)) (fun _ hb => hb))
    refine ⟨v', w', _, ?_, h, (hs'.put o.dst hd hv).sr⟩
    simp [execOp, ho, resolve, invoke, builtin, hv0, hr]
  · rename_i id sz1 off len full hs0
    split at h
    · rename_i e1' sz2 l hg
      obtain ⟨rfl, rfl, rfl, rfl, rfl, rfl, h63, hby, h⟩ := h
      refine does_run fun w0 oa φ a w hs => ?_
      have e1 := hs.ev s; rw [hs0] at e1
      obtain ⟨u, cs, hid, hszp, how, hrw0⟩ := hs.hr.obj id _ hg
      have hv0 : a.eval s = u := by
        generalize a.eval s = X at e1
        cases e1 with
        | sl _ _ _ _ _ u' A c hid' hc hf ha =>
          obtain rfl : u = u' := Option.some.inj (hid.symm.trans hid')
          exact (hf rfl).1.symm
      obtain ⟨A, c, hy, hsrc⟩ := src_open hs.hr (hs.ev x) hxs hsz hcell
      obtain ⟨v', w', news, hr, ho1, hgr, hat, hrw⟩ := app_run (ty := o.type) (ok := okB w0 oa φ (go st.hp) w) hu hinf hzv hzs hsz how hs.hr.below.size hy hsrc (by simpa [maxLen] using h63) hby
      have hbu : blk u = u.ownBlock := blk_ownBlock how
      have hbv : blk v' = v'.ownBlock := blk_ownBlock ho1
      rw [← hbu] at hgr hat
      rw [← hbv] at hat
      have hbelow : Below w0.heap.size w0 w' := hs.hr.below.grown hgr hs.hr.below.size (fun k hk => (below_own how k hk).1)
      have key := hs.hr.grow hg hn hid hszp hgr hbelow (l' := l ++ xs) (by rw [List.length_append]; exact ho1) hat (fun ok hok => (hrw0.mono (fun b hb => (hok b hb).2) (fun b hb => (hok b hb).1)).app (hrw.mono (fun b hb => (hok b hb).2) (fun b hb => (hok b hb).1)))
      have hφn : φ n = none := hs.hr.fresh n hn
      have hs' := hs.heap (φ' := upd φ n v') (fun i v hv => by
        unfold upd
        split
        · rename_i e; subst e; rw [hφn] at hv; cases hv
        · exact hv) key
      refine ⟨v', w', _, ?_, h, (hs'.put o.dst hd ?_).sr⟩
      · simp [execOp, ho, resolve, invoke, builtin, hv0, hr]
      · rcases ho1.2 with ⟨rfl, h0⟩ | ⟨g, cap, cur, rfl, _, _, hnc, _⟩
        · rw [h0]
          exact .sl _ _ _ _ _ (.slice none 0 0) none 0 (by simp [upd]) (Nat.le_refl _) (fun _ => ⟨rfl, rfl⟩) (.inl rfl)
        · exact .sl _ _ _ _ _ (.slice (some ⟨g, 0, none⟩) (l.length + xs.length) cap) _ cap (by simp [upd]) hnc (fun _ => ⟨rfl, rfl⟩) (.inr ⟨g, _, cap, rfl, by simp⟩)
    · exact h.elim
  · exact h.elim
end Go.Proofs.Ytljohhinokaklaa.Am
