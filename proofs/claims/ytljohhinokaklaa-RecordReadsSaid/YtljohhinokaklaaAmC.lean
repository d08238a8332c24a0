/- The abstract machine, part 9b: bytes as strings, copies of bytes. -/
import Derived.Test.YtljohhinokaklaaAm9
import Derived.Laws.BytesString
import Derived.Laws.CopyRow
import Derived.Laws.StructEq
set_option linter.unusedVariables false
set_option linter.unusedSimpArgs false
namespace Go.Proofs.Ytljohhinokaklaa.Am
open Go Go.RowKit

/-! ### bytes as a string -/
def byL : List D → Option (List Int)
  | [] => some []
  | d :: r => match d with
    | .v (.int .u8 n) => (byL r).map (n :: ·)
    | _ => none
def bsV (ns : List Int) : Value := .string (ns.foldl (fun r n => r.push (UInt8.ofNat n.toNat)) ByteArray.empty)
theorem byL_get : ∀ {l : List D} {ns : List Int}, byL l = some ns → l = ns.map fun n => D.v (.int .u8 n)
  | [], ns, h => by simp only [byL, Option.some.injEq] at h; subst h; rfl
  | d :: r, ns, h => by
    simp only [byL] at h
    split at h
    · obtain ⟨m, hm, rfl⟩ := Option.map_eq_some_iff.1 h
      rw [byL_get hm]; rfl
    · cases h
def strT (P : Program) (t : TypeId) : Bool := match P.underlying t with | some .string => true | _ => false
theorem strT_open {P : Program} {t : TypeId} (h : strT P t = true) : P.underlying t = some .string := by
  unfold strT at h
  split at h
  · rename_i he; exact he
  · cases h
def e_str (P : Program) (src dst : TypeId) (x : Operand) (o : Oper) (st : St) (K : V → List (Nat × Ob) → Prop) : Prop :=
  dOk o.dst st.nt ∧ strT P dst = true ∧ match el P src with
  | some (e, sz, _) => ik P e = some .u8 ∧ sz = 1 ∧ match elems st.hp (st.ev x) with
    | some l => match byL l with
      | some ns => K (.d (.v (bsV ns))) []
      | none => False
    | none => False
  | none => False
theorem bytes_news {w : World} {ok : Nat → Prop} {ns : List Int} {news : List Value} (h : Rw w ok 1 (ns.map fun n => D.v (.int .u8 n)) news) : news = ns.map (Value.int .u8) := by
  apply List.ext_getElem?
  intro j
  have hl : news.length = ns.length := by have := h.1; simpa using this
  by_cases hj : j < ns.length
  · obtain ⟨u, hu⟩ : ∃ u, news[j]? = some u := ⟨news[j]'(by omega), by simp⟩
    have := h.2.2.2 j 0 (D.v (.int .u8 ns[j])) (D.v (.int .u8 ns[j])) u (by simp [hj]) rfl (by simpa using hu)
    rw [hu]
    cases this
    simp [hj]
  · simp [List.getElem?_eq_none (show news.length ≤ j by omega), List.getElem?_eq_none (show ns.length ≤ j by omega)]
theorem s_str {P : Program} {src dst : TypeId} {x : Operand} {o : Oper} {st : St} {K : St → Prop} (ho : o.op = .convert src dst x) (h : e_str P src dst x o st fun x ups => K (st.upd o.dst x ups)) : Does P o st K := by
  obtain ⟨hd, hdst, h⟩ := h
  split at h
  case h_2 => exact h.elim
  rename_i e sz by' he
  obtain ⟨hk, rfl, h⟩ := h
  split at h
  case h_2 => exact h.elim
  rename_i l hl
  split at h
  case h_2 => exact h.elim
  rename_i ns hns
  obtain ⟨inf, hu, _, _, _⟩ := el_open he
  have hk := ik_open hk
  have hdst := strT_open hdst
  obtain rfl := byL_get hns
  refine does_val _ hd (fun w0 oa φ a w hs => ⟨_, ?_, .d _ _ (.v _)⟩) h
  obtain ⟨A, c, e1, hA⟩ := src_open hs.hr (hs.ev x) hl (sz := 1) (by decide) (fun d hd => by obtain ⟨n, _, rfl⟩ := List.mem_map.1 hd; rfl)
  have hrun : (convert src dst (a.eval x)).run P w = .ok (bsV ns) w := by
    rw [e1, run_convert_bytes_string w src dst e A _ c hu hk hdst]
    rcases hA with ⟨h0, rfl⟩ | ⟨ad, news, rfl, hc, hrw⟩
    · simp only [List.map_eq_nil_iff] at h0
      subst h0
      simp [Conv.bytesToString, bsV]
    · have hnw := bytes_news hrw
      subst hnw
      have hll := run_loadCells_list (P := P) w ad (ns.map (Value.int .u8)) hc
      rw [run_bytesToString w ad _ c ns (by simpa using hll)]
      rfl
  simp [execOp, ho, hrun]

/-! ### copies of bytes -/
/-- A row of one-cell elements is written in place, from element p on. -/
theorem HR.put1 {w0 w : World} {oa : Nat → Prop} {φ : Nat → Option Value} {hp : List (Nat × Ob)} (hr : HR w0 oa φ (go hp) w) {id e : Nat} {l xs : List D} (hg : go hp id = some (.row e 1 l)) {g m cap : Nat} (hu : φ id = some (.slice (some ⟨g, 0, none⟩) m cap)) {p : Nat} (hp1 : p + xs.length ≤ l.length)
    {news : List Value} (hrw : Rw w (okB w0 oa φ (go hp) w) 1 xs news) {cur : Array Value} {fr : Nat × Nat} (hh : w.heap[g]? = some (.cells cur e fr)) :
    fr = (0, 0) ∧ p + news.length ≤ cur.size ∧ (HR w0 oa φ (go (so hp id (.row e 1 (l.take p ++ xs ++ l.drop (p + xs.length))))) (w.setRow g (cur.toList.take p ++ news ++ cur.toList.drop (p + news.length)).toArray) ∧
      (∀ b, okB w0 oa φ (go hp) w b → okB w0 oa φ (go (so hp id (.row e 1 (l.take p ++ xs ++ l.drop (p + xs.length))))) (w.setRow g (cur.toList.take p ++ news ++ cur.toList.drop (p + news.length)).toArray) b ∧ (w.setRow g (cur.toList.take p ++ news ++ cur.toList.drop (p + news.length)).toArray).heap[b]? = w.heap[b]?)) := by
  obtain ⟨u, cs, hu', hszp, how, hrl⟩ := hr.obj id _ hg
  obtain rfl : u = _ := Option.some.inj (hu'.symm.trans hu)
  have hnl : news.length = xs.length := by have := hrw.1; omega
  rcases how.2 with ⟨h2, _⟩ | ⟨g', cap', cur', h2, hbase, hh', hnc, hcm, hcs, htake⟩
  · simp at h2
  simp only [Value.slice.injEq, Option.some.injEq, Addr.mk.injEq, and_true, true_and] at h2
  obtain ⟨rfl, rfl, rfl⟩ := h2
  rw [hh] at hh'
  simp only [Option.some.injEq, Obj.cells.injEq] at hh'
  obtain ⟨rfl, _, rfl⟩ := hh'
  simp only [Nat.mul_one] at hcs htake
  refine ⟨rfl, by omega, hr.touch hg (by simp) (by simp) hu rfl (by simp) (below_setRow hr.below g hbase _) (fun k hk => setRow_other w g k _ hk) ?_⟩
  intro ok hok
  have hcl : (cur.toList.take p ++ news ++ cur.toList.drop (p + news.length)).length = cur.size := by
    have := mid_len cur.toList news p (by have := Array.length_toList (xs := cur); omega)
    rw [this, Array.length_toList]
  have hll : (l.take p ++ xs ++ l.drop (p + xs.length)).length = l.length := mid_len l xs p hp1
  have hget := mid_get cur.toList news p (by have := Array.length_toList (xs := cur); omega)
  have hgl := mid_get l xs p hp1
  have hmono : ∀ {q : D} {z : Value}, Rd w (okB w0 oa φ (go hp) w) q z → Rd (w.setRow g (cur.toList.take p ++ news ++ cur.toList.drop (p + news.length)).toArray) ok q z := fun hr =>
    hr.mono (fun k hk => setRow_other w g k _ (hok k hk).2) (fun k hk => (hok k hk).1)
  refine ⟨_, (cur.toList.take p ++ news ++ cur.toList.drop (p + news.length)).take l.length, hu, Nat.one_pos, ?_, ?_, ?_, ?_, ?_⟩
  · rw [hll]
    refine ⟨by rw [List.length_take, hcl]; omega, .inr ⟨g, cap, _, rfl, hbase, setRow_heap w g cur _ e _ hh, hnc, hcm, ?_, by simp⟩⟩
    simp only [List.size_toArray, Nat.mul_one]
    rw [hcl]; exact hcs
  · rw [List.length_take, hcl, hll]; omega
  · intro z hz
    obtain ⟨j, hj⟩ := List.mem_iff_getElem?.1 hz
    rw [List.getElem?_take] at hj
    split at hj
    · rw [hget j] at hj
      split at hj
      · exact hrw.2.1 z (List.mem_of_getElem? hj)
      · rename_i hjl _
        refine hrl.2.1 z (List.mem_of_getElem? (i := j) ?_)
        rw [← htake, List.getElem?_take, if_pos hjl]
        exact hj
    · cases hj
  · intro q hq
    rcases List.mem_append.1 hq with hq | hq
    · rcases List.mem_append.1 hq with hq | hq
      · exact hrl.2.2.1 q (List.mem_of_mem_take hq)
      · exact hrw.2.2.1 q hq
    · exact hrl.2.2.1 q (List.mem_of_mem_drop hq)
  · intro k j q z v hq hz hv
    rw [List.getElem?_take] at hv
    split at hv
    case isFalse => cases hv
    rename_i hjl
    have hql : q ∈ l ∨ q ∈ xs := by
      rcases List.mem_append.1 (List.mem_of_getElem? hq) with h5 | h5
      · rcases List.mem_append.1 h5 with h5 | h5
        · exact .inl (List.mem_of_mem_take h5)
        · exact .inr h5
      · exact .inl (List.mem_of_mem_drop h5)
    have hj : j < 1 := by
      have := (List.getElem?_eq_some_iff.1 hz).1
      rcases hql with h5 | h5
      · rw [hrl.2.2.1 q h5] at this; exact this
      · rw [hrw.2.2.1 q h5] at this; exact this
    obtain rfl : j = 0 := by omega
    simp only [Nat.mul_one, Nat.add_zero] at hv hjl
    rw [hget] at hv
    rw [hgl] at hq
    split at hv
    · rename_i hc
      rw [if_pos (by omega)] at hq
      exact hmono (hrw.2.2.2 (k - p) 0 q z v hq hz (by simpa using hv))
    · rename_i hc
      rw [if_neg (by omega)] at hq
      refine hmono (hrl.2.2.2 k 0 q z v hq hz ?_)
      simp only [Nat.mul_one, Nat.add_zero]
      rw [← htake, List.getElem?_take, if_pos hjl]
      exact hv
def e_copy (P : Program) (t : TypeId) (x y : Operand) (o : Oper) (st : St) (K : V → List (Nat × Ob) → Prop) : Prop :=
  dOk o.dst st.nt ∧ match el P t with
  | some (_, sz, _) => sz = 1 ∧ match st.ev x with
    | .sl id sz1 off len _ => match go st.hp id with
      | some (.row e1 sz2 l) => sz1 = 1 ∧ sz2 = 1 ∧ off + len ≤ l.length ∧ match elems st.hp (st.ev y) with
        | some xs => (∀ d ∈ xs, d.cells.length = 1) ∧ K (.d (.v (.int .i64 (min xs.length len : Nat)))) [(id, .row e1 1 (l.take off ++ xs.take (min xs.length len) ++ l.drop (off + (xs.take (min xs.length len)).length)))]
        | none => False
      | _ => False
    | _ => False
  | none => False
theorem s_copy {P : Program} {t t2 : TypeId} {x y : Operand} {o : Oper} {st : St} {K : St → Prop} (ho : o.op = .call { callee := .builtin .copy, args := #[x, y], argTypes := #[t, t2] }) (h : e_copy P t x y o st fun x ups => K (st.upd o.dst x ups)) : Does P o st K := by
  obtain ⟨hd, h⟩ := h
  split at h
  case h_2 => exact h.elim
  rename_i e sz by' he
  obtain ⟨rfl, h⟩ := h
  obtain ⟨inf, hu, hinf, hsz, _⟩ := el_open he
  have hs1 : (P.info? e).map (·.size) = some 1 := by rw [hinf]; simp [hsz]
  split at h
  case h_2 => exact h.elim
  rename_i id sz1 off len full hx
  split at h
  case h_2 => exact h.elim
  rename_i e1 sz2 l hg
  obtain ⟨rfl, rfl, hle, h⟩ := h
  split at h
  case h_2 => exact h.elim
  rename_i xs hxs
  obtain ⟨hcell, h⟩ := h
  refine does_run fun w0 oa φ a w hs => ?_
  have ex := hs.ev x; rw [hx] at ex
  obtain ⟨A, c, ey, hA⟩ := src_open hs.hr (hs.ev y) hxs (sz := 1) (by decide) hcell
  have htl : (xs.take (min xs.length len)).length = min xs.length len := by rw [List.length_take]; omega
  generalize hX : a.eval x = X at ex
  cases ex with
  | sl _ _ _ _ _ u B cB hid hcB hf ha =>
    by_cases h0 : min xs.length len = 0
    · have hrun := run_copy_none (P := P) w t t2 o.type e B A len cB xs.length c hu hs1 h0
      refine ⟨.int .i64 ((min xs.length len : Nat) : Int), w, _, ?_, h, ?_⟩
      · simp only [execOp, ho, resolve, invoke, builtin]
        simp [hX, ey, hrun, h0, goInt]
      · have e0 : go (((id, Ob.row e1 1 (l.take off ++ xs.take (min xs.length len) ++ l.drop (off + (xs.take (min xs.length len)).length))) :: st.hp)) = go st.hp := by
          funext i
          simp only [go]
          split
          · rename_i e; subst e; rw [hg, h0]; simp
          · rfl
        have hs' : SRp w0 oa φ { st with hp := (id, Ob.row e1 1 (l.take off ++ xs.take (min xs.length len) ++ l.drop (off + (xs.take (min xs.length len)).length))) :: st.hp } a w :=
          hs.heap (fun _ _ h => h) ⟨by rw [e0]; exact hs.hr, fun b hb => ⟨by rw [e0]; exact hb, rfl⟩⟩
        rw [h0]
        rw [h0] at hs'
        exact (hs'.put _ hd (.d _ _ (.v _))).sr
    · rcases ha with ha | ⟨b, n, cap, rfl, rfl⟩
      · omega
      · rcases hA with ⟨hn, _⟩ | ⟨ad, news, rfl, hc, hrw⟩
        · subst hn; simp at h0
        · have hrw' : Rw w (okB w0 oa φ (go st.hp) w) 1 (xs.take (min xs.length len)) (news.take (min xs.length len)) := by
            have hnl : news.length = xs.length := by have := hrw.1; omega
            refine ⟨by rw [List.length_take, List.length_take]; omega, fun z hz => hrw.2.1 z (List.mem_of_mem_take hz), fun z hz => hrw.2.2.1 z (List.mem_of_mem_take hz), fun i j d z v hd hz hv => ?_⟩
            rw [List.getElem?_take] at hd hv
            split at hd
            · split at hv
              · exact hrw.2.2.2 i j d z v hd hz hv
              · cases hv
            · cases hd
          have hnl : (news.take (min xs.length len)).length = min xs.length len := by have := hrw'.1; omega
          obtain ⟨u, cs, hu', hszp, how, hrl⟩ := hs.hr.obj id _ hg
          obtain rfl : u = _ := Option.some.inj (hu'.symm.trans hid)
          rcases how.2 with ⟨h2, _⟩ | ⟨g', cap', cur, h2, hbase, hh, hnc, hcm, hcs, htake⟩
          · simp at h2
          simp only [Value.slice.injEq, Option.some.injEq, Addr.mk.injEq, and_true, true_and] at h2
          obtain ⟨rfl, rfl, rfl⟩ := h2
          obtain ⟨_, hfit, key⟩ := HR.put1 hs.hr hg hid (p := off) (by rw [htl]; omega) hrw' hh
          have hrun := run_copy_row (P := P) w t t2 o.type e b off len cB ad xs.length c cur e1 (news.take (min xs.length len)) hu hs1 hh hnl (fun j v hv => by
            rw [List.getElem?_take] at hv
            split at hv
            · exact hc j v hv
            · cases hv) hfit hrw'.2.1
          have hs' := hs.heap (fun _ _ hv => hv) key
          refine ⟨.int .i64 ((min xs.length len : Nat) : Int), _, _, ?_, h, (hs'.put _ hd (.d _ _ (.v _))).sr⟩
          simp only [execOp, ho, resolve, invoke, builtin]
          simp [hX, ey, hrun, hnl, goInt]

/-! ### a constant string's bytes: a row that is marked, and never written again -/
theorem fz_cell (w : World) (g n : Nat) (x : Addr) : (w.freeze ⟨g, n, none⟩ 1).cell? x = w.cell? x := by
  unfold World.freeze World.cell?
  rw [if_neg (by decide)]
  by_cases e : g = x.block
  · cases hh : w.heap[x.block]? with
    | none => simp [Array.getElem?_modify, e, hh]
    | some o => cases o <;> simp [Array.getElem?_modify, e, hh]
  · simp [Array.getElem?_modify, e]
theorem fz_other (w : World) (g n k : Nat) (h : k ≠ g) : (w.freeze ⟨g, n, none⟩ 1).heap[k]? = w.heap[k]? := by
  unfold World.freeze
  rw [if_neg (by decide)]
  simp only [Array.getElem?_modify]
  rw [if_neg (by omega)]
theorem fz_size (w : World) (g n : Nat) : (w.freeze ⟨g, n, none⟩ 1).heap.size = w.heap.size := by
  unfold World.freeze
  rw [if_neg (by decide)]
  simp
theorem fz_below {B : Nat} {a w : World} (h : Below B a w) (g n : Nat) (hg : B ≤ g) : Below B a (w.freeze ⟨g, n, none⟩ 1) := by
  refine h.trans ⟨?_, ?_, ?_, by rw [fz_size]; exact Nat.le_refl _, fun k hk => fz_other w g n k (by omega)⟩ <;> (unfold World.freeze; rw [if_neg (by decide)])
def e_mark (P : Program) (t : TypeId) (x : Operand) (o : Oper) (st : St) (K : V → List (Nat × Ob) → Prop) : Prop :=
  dOk o.dst st.nt ∧ match el P t with
  | some (e, sz, _) => ik P e = some .u8 ∧ sz = 1 ∧ match st.ev x with
    | .sl id sz1 off len _ => match go st.hp id with
      | some (.row _ sz2 l) => sz1 = 1 ∧ sz2 = 1 ∧ 0 < len ∧ off + len ≤ l.length ∧ match byL ((l.drop off).take len) with
        | some ns => K (.d (.list (ns.map fun n => D.v (.int .u8 n)))) [(id, .dead)]
        | none => False
      | _ => False
    | _ => False
  | none => False
theorem s_mark {P : Program} {t : TypeId} {x : Operand} {o : Oper} {st : St} {K : St → Prop} (ho : o.op = .convert t t x) (h : e_mark P t x o st fun x ups => K (st.upd o.dst x ups)) : Does P o st K := by
  obtain ⟨hd, h⟩ := h
  split at h
  case h_2 => exact h.elim
  rename_i e sz by' he
  obtain ⟨hk, rfl, h⟩ := h
  split at h
  case h_2 => exact h.elim
  rename_i id sz1 off len full hx
  split at h
  case h_2 => exact h.elim
  rename_i e1 sz2 l hg
  obtain ⟨rfl, rfl, hlen, hle, h⟩ := h
  split at h
  case h_2 => exact h.elim
  rename_i ns hns
  obtain ⟨inf, hu, _, _, _⟩ := el_open he
  have hk := ik_open hk
  have hnl := byL_get hns
  refine does_run fun w0 oa φ a w hs => ?_
  have ex := hs.ev x; rw [hx] at ex
  obtain ⟨u, cs, hu', hszp, how, hrl⟩ := hs.hr.obj id _ hg
  generalize hX : a.eval x = X at ex
  cases ex with
  | sl _ _ _ _ _ u2 A c hid hc hf ha =>
    obtain rfl : u = u2 := Option.some.inj (hu'.symm.trans hid)
    rcases ha with ha | ⟨b, n, cap, rfl, rfl⟩
    · omega
    rcases how.2 with ⟨h2, _⟩ | ⟨g', cap', cur, h2, hbase, hh, hnc, hcm, hcs, htake⟩
    · simp at h2
    simp only [Value.slice.injEq, Option.some.injEq, Addr.mk.injEq, and_true, true_and] at h2
    obtain ⟨rfl, rfl, rfl⟩ := h2
    have hrun : (convert t t (.slice (some ⟨b, off * 1, none⟩) len c)).run P w = .ok (.slice (some ⟨b, off * 1, none⟩) len c) (w.freeze ⟨b, cur.size, none⟩ 1) := by
      have hsh : w.shape? b = some (e1, cur.size) := by simp [World.shape?, hh]
      simp [convert, run_underlying hu, run_underlying hk, markStringish, hsh]
    have hfz := fz_other w b cur.size
    have key := HR.step (hp' := go (so st.hp id .dead)) (φ' := φ) (w' := w.freeze ⟨b, cur.size, none⟩ 1) hs.hr (fun i => i = id) (by rw [fz_size]; exact Nat.le_refl _) (fz_below hs.hr.below b cur.size hbase)
      (fun k _ hb => hfz k fun ek => hb id _ _ rfl hg (by simp) hid (by rw [ek]; rfl)) (fun _ _ hv => hv) (by
        intro i hi
        rw [go_so] at hi
        split at hi
        · cases hi
        · exact hs.hr.fresh i hi) (by
        intro i o' ho' hne
        rw [go_so] at ho'
        split at ho'
        · cases ho'; exact absurd rfl hne
        · rename_i e5; exact .inl ⟨ho', e5⟩) hs.hr.has (by
        intro i o' ho' hc'
        rw [go_so] at ho'
        split at ho'
        · cases ho'; trivial
        · rename_i e5; exact absurd ⟨ho', e5⟩ hc') (by
        intro i i' o1 o2 v v' ho1 ho2 hn1 hn2 hc' hne hv hv'
        rw [go_so] at ho1
        split at ho1
        · cases ho1; exact absurd rfl hn1
        · rename_i e5; exact absurd ⟨ho1, e5⟩ hc')
    have hs' := hs.heap (fun _ _ hv => hv) key
    refine ⟨.slice (some ⟨b, off * 1, none⟩) len c, _, _, ?_, h, (hs'.put _ hd ?_).sr⟩
    · simp only [execOp, ho]
      simp [hX] at hrun ⊢
      simp [hrun]
    · have hll : ((l.drop off).take len).length = len := by rw [List.length_take, List.length_drop]; omega
      have hnl2 : ns.length = len := by rw [← hll, hnl]; simp
      have hcl : cs.length = l.length := by have := hrl.1; omega
      have hval : ∀ j, j < len → w.cell? ⟨b, off * 1 + j, none⟩ = some (.int .u8 (ns.getD j 0)) := by
        intro j hj
        have h1 : ((l.drop off).take len)[j]? = some (D.v (.int .u8 (ns.getD j 0))) := by rw [hnl]; simp [List.getD_eq_getElem?_getD, show j < ns.length by omega]
        rw [List.getElem?_take, if_pos hj, List.getElem?_drop] at h1
        obtain ⟨v, hv⟩ : ∃ v, cs[off + j]? = some v := ⟨cs[off + j]'(by omega), by simp⟩
        have h3 := hrl.2.2.2 (off + j) 0 _ (D.v (.int .u8 (ns.getD j 0))) v h1 rfl (by simpa using hv)
        have h4 := how.cells (g := b) rfl (off + j) v hv
        rw [Addr.add_lit, Nat.zero_add] at h4
        cases h3
        rw [Nat.mul_one]
        exact h4
      have := Rd.list (w := w.freeze ⟨b, cur.size, none⟩ 1) (ok := okB w0 oa φ (go (so st.hp id .dead)) (w.freeze ⟨b, cur.size, none⟩ 1)) (ns.map fun n => D.v (.int .u8 n)) 1 b (off * 1) c (fun j => .int .u8 (ns.getD j 0)) (by rw [List.length_map, hnl2]; exact hc) ?_ Nat.one_pos (fun d hd => by obtain ⟨n, _, rfl⟩ := List.mem_map.1 hd; rfl)
        (fun j hj => by rw [List.length_map, hnl2, Nat.mul_one] at hj; rw [fz_cell]; exact hval j hj) (fun j _ => rfl) ?_
      · rw [List.length_map, hnl2] at this
        exact .d _ _ this
      · refine ⟨.inr ⟨hbase, by rw [fz_size]; exact (Array.getElem?_eq_some_iff.1 hh).1⟩, fun i o' v ho' hne hv hb => ?_⟩
        rw [go_so] at ho'
        split at ho'
        · cases ho'; exact hne rfl
        · rename_i e5
          rcases hs.hr.inj i id _ _ _ _ ho' hg hne (by simp) e5 hv hid with h6 | h6
          · rw [h6] at hb; cases hb
          · exact h6 hb
      · intro i j d z hd hz
        rw [List.getElem?_map] at hd
        obtain ⟨n, hn, rfl⟩ := Option.map_eq_some_iff.1 hd
        cases j with
        | zero => cases hz; simp [List.getD_eq_getElem?_getD, hn]; exact .v _
        | succ j => cases hz
/-! ### structs of whole numbers, compared -/
def fldI (P : Program) (p : Field × Nat) : Bool := (p.1.name != "_") && (p.1.offset == p.2) && (ik P p.1.type == some .i64)
def eqSB (P : Program) (t : TypeId) (n : Nat) : Bool :=
  match P.underlying t with
  | some (.struct fs) => fs.size == n && fs.toList.zipIdx.all (fldI P) && !(P.eqGuardType P.depth t) && !(P.stoodInHeld t)
  | _ => false
theorem part_int {P : Program} {t : TypeId} (h : ik P t = some .i64) (w : World) (xs : List Int) (k : Nat) (x : Int) (hx : xs[k]? = some x) : (part t (xs.map (Value.int .i64)).toArray k).run P w = .ok (.int .i64 x) w := by
  have hu := ik_open h
  simp [part, run_isAgg hu, isAggD, hx]
theorem eqf_ints {P : Program} {d : Nat} (w : World) {xs ys : List Int} (hl : xs.length = ys.length) : ∀ (l : List Field) (k : Nat), (l.zipIdx k).all (fldI P) = true → k + l.length = xs.length →
    (Op.eqFields (d + 1) (xs.map (Value.int .i64)).toArray (ys.map (Value.int .i64)).toArray l).run P w = .ok (decide (xs.drop k = ys.drop k)) w
  | [], k, _, hk => by
    simp only [List.length_nil, Nat.add_zero] at hk
    rw [List.drop_of_length_le (by omega), List.drop_of_length_le (by omega)]
    simp [Op.eqFields]
  | f :: l, k, h, hk => by
    simp only [List.zipIdx_cons, List.all_cons, Bool.and_eq_true, fldI, bne_iff_ne, beq_iff_eq] at h
    obtain ⟨⟨⟨hn, ho⟩, hi⟩, hr⟩ := h
    simp only [List.length_cons] at hk
    have ih := eqf_ints (P := P) (d := d) w hl l (k + 1) (by simpa [fldI] using hr) (by omega)
    have hx : xs[k]? = some xs[k] := List.getElem?_eq_getElem (by omega)
    have hy : ys[k]? = some ys[k] := List.getElem?_eq_getElem (by omega)
    rw [Op.eqFields, ho]
    simp only [if_pos hn, Sem.run_bind, part_int hi w xs k _ hx, part_int hi w ys k _ hy, run_equalIn_int w d f.type .i64 .i64 _ _ (ik_open hi), Result.andThen_ok]
    rw [List.drop_eq_getElem_cons (show k < xs.length by omega), List.drop_eq_getElem_cons (show k < ys.length by omega)]
    by_cases he : xs[k] = ys[k]
    · simp only [he, beq_self_eq_true, Bool.not_true, Bool.false_eq_true, if_false, ih, List.cons.injEq, true_and]
    · have hb : (xs[k] == ys[k]) = false := by simpa using he
      simp only [hb, Bool.not_false, if_true, List.cons.injEq, he, false_and, decide_false, Sem.run_pure]
theorem eqS_of {P : Program} {t : TypeId} {n : Nat} (h : eqSB P t n = true) : EqS P t n := by
  intro xs ys w x y hx hy
  unfold eqSB at h
  split at h
  case h_2 => cases h
  rename_i fs hu
  simp only [Bool.and_eq_true, beq_iff_eq, Bool.not_eq_true'] at h
  obtain ⟨⟨⟨hs, ha⟩, hg⟩, hp⟩ := h
  have hf : P.fieldsOf t = fs := by simp [Program.fieldsOf, hu]
  refine ⟨run_eqGuard_agg w .eql t x y _ _ hg, run_eqGuard_agg w .neq t x y _ _ hg, ?_⟩
  show (Op.equalIn 10000 t _ _).run P w = _
  rw [run_equalIn_struct w 9999 t _ _ (by rw [hf]; exact hu) hp, hf]
  have := eqf_ints (P := P) (d := 9998) w (xs := xs) (ys := ys) (by omega) fs.toList 0 ha (by simp; omega)
  simpa using this
/-- Of how many whole numbers a struct is, if it is of such alone. -/
def eqSN (P : Program) (t : TypeId) : Option Nat := match tk P t with
  | some (_, n) => if eqSB P t n = true then some n else none
  | none => none
theorem eqSN_ok {P : Program} {t : TypeId} {n : Nat} (h : eqSN P t = some n) : EqS P t n := by
  unfold eqSN at h
  split at h
  · split at h
    · rename_i he; cases h; exact eqS_of he
    · cases h
  · cases h
/-- A conversion: to whole numbers, of bytes to a string, of a constant's bytes to such. -/
def e_cnv (P : Program) (s d : TypeId) (x : Operand) (o : Oper) (st : St) (K : V → List (Nat × Ob) → Prop) : Prop :=
  match ik P d with
  | some _ => e_conv P s d x o st K
  | none => match strT P d with
    | true => e_str P s d x o st K
    | false => s = d ∧ e_mark P d x o st K
theorem s_cnv {P : Program} {src dst : TypeId} {x : Operand} {o : Oper} {st : St} {K : St → Prop} (ho : o.op = .convert src dst x) (h : e_cnv P src dst x o st fun x ups => K (st.upd o.dst x ups)) : Does P o st K := by
  unfold e_cnv at h
  split at h
  · exact s_conv ho h
  · split at h
    · exact s_str ho h
    · obtain ⟨rfl, h⟩ := h
      exact s_mark ho h
end Go.Proofs.Ytljohhinokaklaa.Am
