import Derived.Test.YtaiaackeljlbfaaZAmB
section
set_option linter.unusedVariables false
namespace Go.Proofs.Ytaiaackeljlbfaa.Am
open Go Go.RowKit Go.Proofs
abbrev tyOf {p : Prop} (_ : p) : Prop := p
theorem stA : tyOf (And.intro (@byL_B) <|
  And.intro (@byL_cons) <|
  And.intro (@byL_nil) <|
  And.intro (@if_le) <|
  And.intro (@bb_tt) <|
  And.intro (@bb_ff) <|
  And.intro (@bb_tf) <|
  And.intro (@bb_ft) <|
  And.intro (@b_add) <|
  And.intro (@b_sub) <|
  And.intro (@b_mul) <|
  And.intro (@b_quo) <|
  And.intro (@b_rem) <|
  And.intro (@b_and) <|
  And.intro (@b_or) <|
  And.intro (@b_xor) <|
  And.intro (@b_eql) <|
  And.intro (@b_neq) <|
  And.intro (@b_lss) <|
  And.intro (@b_leq) <|
  And.intro (@b_gtr) <|
  And.intro (@b_geq) <|
  And.intro (@b_shr_u64) <|
  And.intro (@b_shl_u64) <|
  And.intro (@b_shr_i64) <|
  And.intro (@b_shl_i64) <|
  And.intro (@b_shr_u32) <|
  And.intro (@b_shl_u32) <|
  And.intro (@b_shr_u8) <|
  And.intro (@b_shl_u8) <|
  And.intro (@agg_cells) <|
  And.intro (@ref_cells) <|
  And.intro (@v_cells) <|
  And.intro (@mB_cells) <|
  And.intro (@mI_cells) <|
  And.intro (@bys_cells) <|
  And.intro (@list_cells) <|
  And.intro (@nth_B) <|
  And.intro (@nth_I) <|
  And.intro (@all_B) <|
  And.intro (@all_I) <|
  And.intro (@sc_B) <|
  And.intro (@sc_I) <|
  And.intro (@sc_v) <|
  And.intro (@set_B) <|
  And.intro (@set_I) <|
  And.intro (@tt_eq) <|
  And.intro (@wrap_id) <|
  And.intro (@Int.cast_ofNat_Int) <|
  And.intro (@decide_true) <|
  And.intro (@decide_false) <|
  And.intro (@not_true_eq_false) <|
  And.intro (@Nat.le_refl) <|
  And.intro (@Int.le_refl) <|
  And.intro (@List.size_toArray.{0}) <|
  And.intro (@false_and) <|
  And.intro (@and_false) <|
  And.intro (@and_assoc) <|
  And.intro (@List.map_cons.{0, 0}) <|
  And.intro (@List.map_nil.{0, 0}) <|
  And.intro (@List.nil_append.{0}) <|
  And.intro (@List.cons_append.{0}) <|
  And.intro (@List.singleton_append.{0}) <|
  And.intro (@List.append_nil.{0}) <|
  And.intro (@List.length_cons.{0}) <|
  And.intro (@List.length_nil.{0}) <|
  And.intro (@List.length_map.{0, 0}) <|
  And.intro (@List.length_append.{0}) <|
  And.intro (@List.flatMap_cons.{0, 0}) <|
  And.intro (@List.flatMap_nil.{0, 0}) <|
  And.intro (@List.take_zero.{0}) <|
  And.intro (@List.drop_zero.{0}) <|
  And.intro (@List.take_succ_cons.{0}) <|
  And.intro (@List.drop_succ_cons.{0}) <|
  And.intro (@List.take_nil.{0}) <|
  And.intro (@List.drop_nil.{0}) <|
  And.intro (@List.head?_cons.{0}) <|
  And.intro (@List.all_cons.{0}) <|
  And.intro (@List.all_nil.{0}) <|
  And.intro (@List.getElem?_cons_zero.{0}) <|
  And.intro (@List.getElem?_cons_succ.{0}) <|
  And.intro (@List.getElem?_nil.{0}) <|
  And.intro (@List.mem_cons.{0}) <|
  And.intro (@List.not_mem_nil.{0}) <|
  And.intro (@forall_eq_or_imp.{1}) <|
  And.intro (@forall_eq_or_imp.{0}) <|
  And.intro (@forall_eq.{1}) <|
  And.intro (@forall_eq.{0}) <|
  And.intro (@Option.getD_some.{0}) <|
  And.intro (@Option.getD_none.{0}) <|
  And.intro (@Option.map_some.{0, 0}) <|
  And.intro (@Option.map_none.{0, 0}) <|
  And.intro (@Option.isNone_some.{0}) <|
  And.intro (@Option.isNone_none.{0}) <|
  And.intro (@Option.isSome_some.{0}) <|
  And.intro (@Option.isSome_none.{0}) <|
  And.intro (@ite_true.{1}) <|
  And.intro (@ite_true.{0}) <|
  And.intro (@ite_false.{1}) <|
  And.intro (@ite_false.{0}) <|
  And.intro (@if_true.{1}) <|
  And.intro (@if_true.{0}) <|
  And.intro (@if_false.{1}) <|
  And.intro (@if_false.{0}) <|
  And.intro (@true_and) <|
  And.intro (@and_true) <|
  And.intro (@and_self) <|
  And.intro (@false_or) <|
  And.intro (@or_false) <|
  And.intro (@or_true) <|
  And.intro (@true_or) <|
  And.intro (@implies_true.{1}) <|
  And.intro (@implies_true.{0}) <|
  And.intro (@forall_const.{1}) <|
  And.intro (@forall_const.{0}) <|
  And.intro (@false_implies) <|
  And.intro (@not_false_eq_true) <|
  And.intro (@Bool.and_true) <|
  And.intro (@Bool.true_and) <|
  And.intro (@Bool.and_false) <|
  And.intro (@Bool.false_and) <|
  And.intro (@Bool.not_true) <|
  And.intro (@Bool.not_false) <|
  And.intro (@Bool.false_eq_true) <|
  And.intro (@Bool.true_eq_false) <|
  And.intro (@Int.toNat_natCast) <|
  And.intro (@Int.toNat_zero) <|
  And.intro (@Nat.zero_add) <|
  And.intro (@Nat.add_zero) <|
  And.intro (@Nat.sub_zero) <|
  And.intro (@Int.natCast_nonneg) <|
  And.intro (@ne_eq.{1}) <|
  And.intro (@ne_eq.{0}) <|
  And.intro (@exists_eq_left.{1}) <|
  And.intro (@exists_eq_left.{0}) <|
  And.intro (@exists_eq_left'.{1}) <|
  And.intro (@exists_eq_left'.{0}) <|
  And.intro (@exists_eq.{1}) <|
  And.intro (@exists_eq.{0}) <|
  And.intro (@exists_and_left.{1}) <|
  And.intro (@exists_and_left.{0}) <|
  And.intro (@exists_and_right.{1}) <|
  And.intro (@exists_and_right.{0}) <|
  And.intro (@Option.some.injEq.{0}) <|
  And.intro (@Prod.mk.injEq.{0, 0}) <|
  And.intro (@List.cons.injEq.{0}) <|
  And.intro (@D.v.injEq) <|
  And.intro (@D.list.injEq) <|
  And.intro (@D.agg.injEq) <|
  And.intro (@mB_inj) <|
  And.intro (@mI_inj) <|
  And.intro (@Value.int.injEq) <|
  And.intro (@Value.bool.injEq) <|
  And.intro (@decide_eq_true_eq) <|
  And.intro (@decide_eq_false_iff_not) <|
  And.intro (@Bool.not_eq_true') <|
  @Bool.not_eq_false') :=
  And.intro (@byL_B) <|
  And.intro (@byL_cons) <|
  And.intro (@byL_nil) <|
  And.intro (@if_le) <|
  And.intro (@bb_tt) <|
  And.intro (@bb_ff) <|
  And.intro (@bb_tf) <|
  And.intro (@bb_ft) <|
  And.intro (@b_add) <|
  And.intro (@b_sub) <|
  And.intro (@b_mul) <|
  And.intro (@b_quo) <|
  And.intro (@b_rem) <|
  And.intro (@b_and) <|
  And.intro (@b_or) <|
  And.intro (@b_xor) <|
  And.intro (@b_eql) <|
  And.intro (@b_neq) <|
  And.intro (@b_lss) <|
  And.intro (@b_leq) <|
  And.intro (@b_gtr) <|
  And.intro (@b_geq) <|
  And.intro (@b_shr_u64) <|
  And.intro (@b_shl_u64) <|
  And.intro (@b_shr_i64) <|
  And.intro (@b_shl_i64) <|
  And.intro (@b_shr_u32) <|
  And.intro (@b_shl_u32) <|
  And.intro (@b_shr_u8) <|
  And.intro (@b_shl_u8) <|
  And.intro (@agg_cells) <|
  And.intro (@ref_cells) <|
  And.intro (@v_cells) <|
  And.intro (@mB_cells) <|
  And.intro (@mI_cells) <|
  And.intro (@bys_cells) <|
  And.intro (@list_cells) <|
  And.intro (@nth_B) <|
  And.intro (@nth_I) <|
  And.intro (@all_B) <|
  And.intro (@all_I) <|
  And.intro (@sc_B) <|
  And.intro (@sc_I) <|
  And.intro (@sc_v) <|
  And.intro (@set_B) <|
  And.intro (@set_I) <|
  And.intro (@tt_eq) <|
  And.intro (@wrap_id) <|
  And.intro (@Int.cast_ofNat_Int) <|
  And.intro (@decide_true) <|
  And.intro (@decide_false) <|
  And.intro (@not_true_eq_false) <|
  And.intro (@Nat.le_refl) <|
  And.intro (@Int.le_refl) <|
  And.intro (@List.size_toArray.{0}) <|
  And.intro (@false_and) <|
  And.intro (@and_false) <|
  And.intro (@and_assoc) <|
  And.intro (@List.map_cons.{0, 0}) <|
  And.intro (@List.map_nil.{0, 0}) <|
  And.intro (@List.nil_append.{0}) <|
  And.intro (@List.cons_append.{0}) <|
  And.intro (@List.singleton_append.{0}) <|
  And.intro (@List.append_nil.{0}) <|
  And.intro (@List.length_cons.{0}) <|
  And.intro (@List.length_nil.{0}) <|
  And.intro (@List.length_map.{0, 0}) <|
  And.intro (@List.length_append.{0}) <|
  And.intro (@List.flatMap_cons.{0, 0}) <|
  And.intro (@List.flatMap_nil.{0, 0}) <|
  And.intro (@List.take_zero.{0}) <|
  And.intro (@List.drop_zero.{0}) <|
  And.intro (@List.take_succ_cons.{0}) <|
  And.intro (@List.drop_succ_cons.{0}) <|
  And.intro (@List.take_nil.{0}) <|
  And.intro (@List.drop_nil.{0}) <|
  And.intro (@List.head?_cons.{0}) <|
  And.intro (@List.all_cons.{0}) <|
  And.intro (@List.all_nil.{0}) <|
  And.intro (@List.getElem?_cons_zero.{0}) <|
  And.intro (@List.getElem?_cons_succ.{0}) <|
  And.intro (@List.getElem?_nil.{0}) <|
  And.intro (@List.mem_cons.{0}) <|
  And.intro (@List.not_mem_nil.{0}) <|
  And.intro (@forall_eq_or_imp.{1}) <|
  And.intro (@forall_eq_or_imp.{0}) <|
  And.intro (@forall_eq.{1}) <|
  And.intro (@forall_eq.{0}) <|
  And.intro (@Option.getD_some.{0}) <|
  And.intro (@Option.getD_none.{0}) <|
  And.intro (@Option.map_some.{0, 0}) <|
  And.intro (@Option.map_none.{0, 0}) <|
  And.intro (@Option.isNone_some.{0}) <|
  And.intro (@Option.isNone_none.{0}) <|
  And.intro (@Option.isSome_some.{0}) <|
  And.intro (@Option.isSome_none.{0}) <|
  And.intro (@ite_true.{1}) <|
  And.intro (@ite_true.{0}) <|
  And.intro (@ite_false.{1}) <|
  And.intro (@ite_false.{0}) <|
  And.intro (@if_true.{1}) <|
  And.intro (@if_true.{0}) <|
  And.intro (@if_false.{1}) <|
  And.intro (@if_false.{0}) <|
  And.intro (@true_and) <|
  And.intro (@and_true) <|
  And.intro (@and_self) <|
  And.intro (@false_or) <|
  And.intro (@or_false) <|
  And.intro (@or_true) <|
  And.intro (@true_or) <|
  And.intro (@implies_true.{1}) <|
  And.intro (@implies_true.{0}) <|
  And.intro (@forall_const.{1}) <|
  And.intro (@forall_const.{0}) <|
  And.intro (@false_implies) <|
  And.intro (@not_false_eq_true) <|
  And.intro (@Bool.and_true) <|
  And.intro (@Bool.true_and) <|
  And.intro (@Bool.and_false) <|
  And.intro (@Bool.false_and) <|
  And.intro (@Bool.not_true) <|
  And.intro (@Bool.not_false) <|
  And.intro (@Bool.false_eq_true) <|
  And.intro (@Bool.true_eq_false) <|
  And.intro (@Int.toNat_natCast) <|
  And.intro (@Int.toNat_zero) <|
  And.intro (@Nat.zero_add) <|
  And.intro (@Nat.add_zero) <|
  And.intro (@Nat.sub_zero) <|
  And.intro (@Int.natCast_nonneg) <|
  And.intro (@ne_eq.{1}) <|
  And.intro (@ne_eq.{0}) <|
  And.intro (@exists_eq_left.{1}) <|
  And.intro (@exists_eq_left.{0}) <|
  And.intro (@exists_eq_left'.{1}) <|
  And.intro (@exists_eq_left'.{0}) <|
  And.intro (@exists_eq.{1}) <|
  And.intro (@exists_eq.{0}) <|
  And.intro (@exists_and_left.{1}) <|
  And.intro (@exists_and_left.{0}) <|
  And.intro (@exists_and_right.{1}) <|
  And.intro (@exists_and_right.{0}) <|
  And.intro (@Option.some.injEq.{0}) <|
  And.intro (@Prod.mk.injEq.{0, 0}) <|
  And.intro (@List.cons.injEq.{0}) <|
  And.intro (@D.v.injEq) <|
  And.intro (@D.list.injEq) <|
  And.intro (@D.agg.injEq) <|
  And.intro (@mB_inj) <|
  And.intro (@mI_inj) <|
  And.intro (@Value.int.injEq) <|
  And.intro (@Value.bool.injEq) <|
  And.intro (@decide_eq_true_eq) <|
  And.intro (@decide_eq_false_iff_not) <|
  And.intro (@Bool.not_eq_true') <|
  @Bool.not_eq_false'
theorem stH : tyOf (And.intro (@not_true_eq_false) <|
  And.intro (@not_false_eq_true) <|
  And.intro (@decide_true) <|
  And.intro (@decide_false) <|
  And.intro (@Decidable.not_not) <|
  And.intro (@Bool.not_true) <|
  And.intro (@Bool.not_false) <|
  And.intro (@decide_eq_true_eq) <|
  And.intro (@decide_eq_false_iff_not) <|
  And.intro (@Bool.not_eq_true') <|
  And.intro (@Bool.not_eq_false') <|
  And.intro (@Bool.not_eq_true) <|
  And.intro (@Bool.not_eq_false) <|
  And.intro (@Bool.and_eq_true) <|
  And.intro (@Bool.or_eq_true) <|
  And.intro (@Bool.false_eq_true) <|
  And.intro (@Bool.true_eq_false) <|
  And.intro (@Int.not_lt) <|
  @Int.not_le) :=
  And.intro (@not_true_eq_false) <|
  And.intro (@not_false_eq_true) <|
  And.intro (@decide_true) <|
  And.intro (@decide_false) <|
  And.intro (@Decidable.not_not) <|
  And.intro (@Bool.not_true) <|
  And.intro (@Bool.not_false) <|
  And.intro (@decide_eq_true_eq) <|
  And.intro (@decide_eq_false_iff_not) <|
  And.intro (@Bool.not_eq_true') <|
  And.intro (@Bool.not_eq_false') <|
  And.intro (@Bool.not_eq_true) <|
  And.intro (@Bool.not_eq_false) <|
  And.intro (@Bool.and_eq_true) <|
  And.intro (@Bool.or_eq_true) <|
  And.intro (@Bool.false_eq_true) <|
  And.intro (@Bool.true_eq_false) <|
  And.intro (@Int.not_lt) <|
  @Int.not_le
theorem stU : tyOf (And.intro (@St.upd.eq_1) <| And.intro (@St.put.eq_1) <| And.intro (@List.nil_append.{0}) <| And.intro (@List.cons_append.{0}) <| And.intro (@List.singleton_append.{0}) <| @List.append_nil.{0}) :=
  And.intro (@St.upd.eq_1) <| And.intro (@St.put.eq_1) <| And.intro (@List.nil_append.{0}) <| And.intro (@List.cons_append.{0}) <| And.intro (@List.singleton_append.{0}) <| @List.append_nil.{0}
section
variable {E : Env} {ops ops' : Array Oper} {st s : St} {acc : List (V × List (Nat × Ob))}
theorem awl_nil2 {K : St → Prop} (h : (V → V) → K st) : Awl E ops [] st K := awl_nil (h id)
theorem awc_nilq {A B C : List (V × List (Nat × Ob)) → St → Prop} (h1 : A acc st) (h2 : B acc st) (h3 : (V → V) → C acc st) : Awc E ops [] st acc (fun δ s => A δ s ∧ B δ s ∧ C δ s) := awc_nil ⟨h1, h2, h3 id⟩
theorem awc_leaf2 {B : List Nat} {δ : List (V × List (Nat × Ob))} {l : List Nat} {Q : Exit → St → Prop} (dd : List (Option Tmp)) (css : List (List (Option Bool))) (hd : ops.toList.map (·.dst) = dd) (hc : codesAll B ops.toList.length 0 ops.toList.length = css)
    (h2 : pairsB B 0 ops.toList (δ.map idsO) = true) (h1 : Each E ops dd st δ css ops.toList δ) (h3 : (V → V) → Q .normal (s.keep l)) :
    Awc E ops' [] s δ fun δ s => each E ops B st δ 0 ops.toList δ ∧ pairs B 0 ops.toList δ ∧ Q .normal (s.keep l) := awc_leaf dd css hd hc h2 h1 (h3 id)
end
attribute [go_sem] awl ev1 evk evc gv e_move e_pick e_bin binW e_un e_cnv e_conv e_str e_mark e_copy e_extract e_len e_mm e_nil e_index e_field e_load e_fld e_cut e_alloc e_box e_make e_build e_lit e_store e_app e_call e_callF idsA killL so args pus pu pu1 toDL toD toD1 toDs elems idsW idsV lenV oint cutOk ldV subD newD fillV cellsV one1 one0 zD cD0 scs St.upd St.put St.ev St.keep gt go tmOf ofD dOk cV cV0 renM Value.oneCell' keepL freshL vaOL outB wkTm subL ninL injL nm resW resL resV shift ren ren2 ren1 renO va va2 va1 vaO inDom
attribute [go_sem] stA
attribute [go_sem] e_mkmap e_lookup findM e_mapup e_s2a e_cpy e_copyE vmOf lv slOf cutC idsL e_makeC e_cap e_appZ e_callM lends addN addN.addN1 ptrs ownOL ownO own1L own1 shM argM argsM pusM lentM lentOk memN nonN nonM renMM deadM outM pinL List.zip_cons_cons List.zip_nil_left List.zip_nil_right List.length_cons List.length_nil
end Go.Proofs.Ytaiaackeljlbfaa.Am
end
section
set_option linter.unusedVariables false
set_option linter.unusedSimpArgs false
namespace Go.Proofs.Ytaiaackeljlbfaa.Am
open Go Go.RowKit Go.Proofs
section
variable {E : Env} {ops : Array Oper} {o : Oper} {r : List Oper} {st : St} {K : List (V × List (Nat × Ob)) → St → Prop} {acc : List (V × List (Nat × Ob))}
theorem awc_skip {j : Nat} {want : Bool} {t : Tmp} {l : Array Value} (hg : o.guard = some (j, want)) (ht : gvt ops j = some t) (htn : t < st.nt) (hb : gt st.tm t = .d (.v (.tuple l))) (hd : dOkb o.dst st.nt = true)
    (h2 : Awc E ops r (st.upd o.dst (.d (.v undef)) []) (acc ++ [(.d (.v undef), [])]) K) : Awc E ops (o :: r) st acc K := by
  have hv : gv ops st j = some none := by
    unfold gvt at ht
    unfold gv
    split at ht
    · rename_i q hq
      simp only [hq, ht, if_pos htn, hb]
    · cases ht
  refine ⟨?_⟩
  simp only [awc, ev1, hg, hv]
  exact ⟨dOkb_ok hd, h2.h⟩
variable {δ : List (V × List (Nat × Ob))} {dd : List (Option Tmp)} {css : List (List (Option Bool))} {cs : List (Option Bool)} {os : List Oper} {ds : List (V × List (Nat × Ob))}
theorem each_skip {j : Nat} {want : Bool} {t : Tmp} {l : Array Value} (hg : o.guard = some (j, want)) (ht : gvt ops j = some t) (htn : t < st.nt) (hd : dOkb o.dst st.nt = true)
    (hr : Each E ops dd st δ css os ds)
    (hb : ∀ b, gt (Sg3 b cs 0 dd δ st).tm t = .d (.v (.tuple l)) := by (intro bb; simp only [Sg3, St.updIf, St.upd, St.put, ifc_nil, gt_ifc, gt, List.nil_append, List.cons_append, Option.some.injEq, reduceCtorEq, Nat.reduceEqDiff, ↓reduceIte, ite_self]; try rfl)) : Each E ops dd st δ (cs :: css) (o :: os) ((.d (.v undef), []) :: ds) := by
  refine ⟨?_⟩
  simp only [eachT]
  refine ⟨fun b K hK => ?_, hr.h⟩
  have hnt : (Sg3 b cs 0 dd δ st).nt = st.nt := Sg3_nt _ _ _ _ _
  have hv : gv ops (Sg3 b cs 0 dd δ st) j = some none := by
    unfold gvt at ht
    unfold gv
    split at ht
    · rename_i q hq
      simp only [hq, ht, hnt, if_pos htn, hb]
    · cases ht
  simp only [ev1, hg, hv]
  exact ⟨by rw [hnt]; exact dOkb_ok hd, hK⟩
end
end Go.Proofs.Ytaiaackeljlbfaa.Am
end
section
namespace Go.Proofs.Ytaiaackeljlbfaa.Am
open Go Go.RowKit Go.Proofs
structure midQ (st' : St) (e : Exit) (s : St) : Prop where
  h : e = .normal ∧ ∃ ρ, Wk ρ s st'
theorem AW.mids {P : Program} {x y : Code} {st : St} {Q : Exit → St → Prop} (st' : St) (h1 : AW P x st (midQ st')) (h2 : AW P y st' Q) : AW P (.seq x y) st Q :=
  AW.mid st' (h1.mono fun _ _ h => h.h) h2
structure midxQ {ι : Type} (S : ι → St) (G : ι → Prop) (e : Exit) (s : St) : Prop where
  h : e = .normal ∧ ∃ i, G i ∧ ∃ ρ, Wk ρ s (S i)
theorem AW.midxs {P : Program} {x y : Code} {st : St} {Q : Exit → St → Prop} {ι : Type} (S : ι → St) (G : ι → Prop) (h1 : AW P x st (midxQ S G)) (h2 : ∀ i, G i → AW P y (S i) Q) : AW P (.seq x y) st Q :=
  AW.midx S G (h1.mono fun _ _ h => h.h) h2
structure midN (st' : St) (s : St) : Prop where
  h : ∃ ρ, Wk ρ s st'
structure midxN {ι : Type} (S : ι → St) (G : ι → Prop) (s : St) : Prop where
  h : ∃ i, G i ∧ ∃ ρ, Wk ρ s (S i)
section
variable {P : Program} {x x1 x2 x3 x4 x5 x6 x7 x8 x9 y : Code} {st : St} {Q : Exit → St → Prop}
theorem thenA.mono {n n' : St → Prop} (hn : ∀ s, n s → n' s) (e : Exit) (s : St) (h : thenA n Q e s) : thenA n' Q e s := by
  refine ⟨?_⟩
  have := h.h
  cases e with
  | normal => exact hn s this
  | _ => exact this
theorem midN.go {st' : St} (h2 : AW P y st' Q) (s : St) (h : midN st' s) : AW P y s Q := by
  obtain ⟨ρ, hw⟩ := h.h
  exact ⟨fun w0 oa a w hs => h2.h w0 oa a w (hw.sr hs)⟩
theorem midxN.go {ι : Type} {S : ι → St} {G : ι → Prop} (h2 : ∀ i, G i → AW P y (S i) Q) (s : St) (h : midxN S G s) : AW P y s Q := by
  obtain ⟨i, hg, ρ, hw⟩ := h.h
  exact ⟨fun w0 oa a w hs => (h2 i hg).h w0 oa a w (hw.sr hs)⟩
theorem AW.sq {n : St → Prop} (hn : ∀ s, n s → AW P y s Q) (h : AW P x st (thenA n Q)) : AW P (.seq x y) st Q := AW.seq (h.mono (thenA.mono hn))
theorem AW.m1 (st' : St) (h1 : AW P x1 st (thenA (midN st') Q)) (h2 : AW P y st' Q) : AW P (.seq x1 y) st Q := AW.sq (midN.go h2) h1
theorem AW.m2 (st' : St) (h1 : AW P x1 st (thenA (fun s => AW P x2 s (thenA (midN st') Q)) Q)) (h2 : AW P y st' Q) : AW P (.seq x1 (.seq x2 y)) st Q := AW.sq (fun _ h => AW.sq (midN.go h2) h) h1
theorem AW.m3 (st' : St) (h1 : AW P x1 st (thenA (fun s => AW P x2 s (thenA (fun s => AW P x3 s (thenA (midN st') Q)) Q)) Q)) (h2 : AW P y st' Q) : AW P (.seq x1 (.seq x2 (.seq x3 y))) st Q := AW.sq (fun _ h => AW.sq (fun _ h => AW.sq (midN.go h2) h) h) h1
theorem AW.m4 (st' : St) (h1 : AW P x1 st (thenA (fun s => AW P x2 s (thenA (fun s => AW P x3 s (thenA (fun s => AW P x4 s (thenA (midN st') Q)) Q)) Q)) Q)) (h2 : AW P y st' Q) : AW P (.seq x1 (.seq x2 (.seq x3 (.seq x4 y)))) st Q := AW.sq (fun _ h => AW.sq (fun _ h => AW.sq (fun _ h => AW.sq (midN.go h2) h) h) h) h1
theorem AW.m5 (st' : St) (h1 : AW P x1 st (thenA (fun s => AW P x2 s (thenA (fun s => AW P x3 s (thenA (fun s => AW P x4 s (thenA (fun s => AW P x5 s (thenA (midN st') Q)) Q)) Q)) Q)) Q)) (h2 : AW P y st' Q) : AW P (.seq x1 (.seq x2 (.seq x3 (.seq x4 (.seq x5 y))))) st Q := AW.sq (fun _ h => AW.sq (fun _ h => AW.sq (fun _ h => AW.sq (fun _ h => AW.sq (midN.go h2) h) h) h) h) h1
theorem AW.m6 (st' : St) (h1 : AW P x1 st (thenA (fun s => AW P x2 s (thenA (fun s => AW P x3 s (thenA (fun s => AW P x4 s (thenA (fun s => AW P x5 s (thenA (fun s => AW P x6 s (thenA (midN st') Q)) Q)) Q)) Q)) Q)) Q)) (h2 : AW P y st' Q) : AW P (.seq x1 (.seq x2 (.seq x3 (.seq x4 (.seq x5 (.seq x6 y)))))) st Q := AW.sq (fun _ h => AW.sq (fun _ h => AW.sq (fun _ h => AW.sq (fun _ h => AW.sq (fun _ h => AW.sq (midN.go h2) h) h) h) h) h) h1
theorem AW.m7 (st' : St) (h1 : AW P x1 st (thenA (fun s => AW P x2 s (thenA (fun s => AW P x3 s (thenA (fun s => AW P x4 s (thenA (fun s => AW P x5 s (thenA (fun s => AW P x6 s (thenA (fun s => AW P x7 s (thenA (midN st') Q)) Q)) Q)) Q)) Q)) Q)) Q)) (h2 : AW P y st' Q) : AW P (.seq x1 (.seq x2 (.seq x3 (.seq x4 (.seq x5 (.seq x6 (.seq x7 y))))))) st Q := AW.sq (fun _ h => AW.sq (fun _ h => AW.sq (fun _ h => AW.sq (fun _ h => AW.sq (fun _ h => AW.sq (fun _ h => AW.sq (midN.go h2) h) h) h) h) h) h) h1
theorem AW.m8 (st' : St) (h1 : AW P x1 st (thenA (fun s => AW P x2 s (thenA (fun s => AW P x3 s (thenA (fun s => AW P x4 s (thenA (fun s => AW P x5 s (thenA (fun s => AW P x6 s (thenA (fun s => AW P x7 s (thenA (fun s => AW P x8 s (thenA (midN st') Q)) Q)) Q)) Q)) Q)) Q)) Q)) Q)) (h2 : AW P y st' Q) : AW P (.seq x1 (.seq x2 (.seq x3 (.seq x4 (.seq x5 (.seq x6 (.seq x7 (.seq x8 y)))))))) st Q := AW.sq (fun _ h => AW.sq (fun _ h => AW.sq (fun _ h => AW.sq (fun _ h => AW.sq (fun _ h => AW.sq (fun _ h => AW.sq (fun _ h => AW.sq (midN.go h2) h) h) h) h) h) h) h) h1
theorem AW.m9 (st' : St) (h1 : AW P x1 st (thenA (fun s => AW P x2 s (thenA (fun s => AW P x3 s (thenA (fun s => AW P x4 s (thenA (fun s => AW P x5 s (thenA (fun s => AW P x6 s (thenA (fun s => AW P x7 s (thenA (fun s => AW P x8 s (thenA (fun s => AW P x9 s (thenA (midN st') Q)) Q)) Q)) Q)) Q)) Q)) Q)) Q)) Q)) (h2 : AW P y st' Q) : AW P (.seq x1 (.seq x2 (.seq x3 (.seq x4 (.seq x5 (.seq x6 (.seq x7 (.seq x8 (.seq x9 y))))))))) st Q := AW.sq (fun _ h => AW.sq (fun _ h => AW.sq (fun _ h => AW.sq (fun _ h => AW.sq (fun _ h => AW.sq (fun _ h => AW.sq (fun _ h => AW.sq (fun _ h => AW.sq (midN.go h2) h) h) h) h) h) h) h) h) h1
theorem AW.mx1 {ι : Type} (S : ι → St) (G : ι → Prop) (h1 : AW P x1 st (thenA (midxN S G) Q)) (h2 : ∀ i, G i → AW P y (S i) Q) : AW P (.seq x1 y) st Q := AW.sq (midxN.go h2) h1
theorem AW.mx2 {ι : Type} (S : ι → St) (G : ι → Prop) (h1 : AW P x1 st (thenA (fun s => AW P x2 s (thenA (midxN S G) Q)) Q)) (h2 : ∀ i, G i → AW P y (S i) Q) : AW P (.seq x1 (.seq x2 y)) st Q := AW.sq (fun _ h => AW.sq (midxN.go h2) h) h1
theorem AW.mx3 {ι : Type} (S : ι → St) (G : ι → Prop) (h1 : AW P x1 st (thenA (fun s => AW P x2 s (thenA (fun s => AW P x3 s (thenA (midxN S G) Q)) Q)) Q)) (h2 : ∀ i, G i → AW P y (S i) Q) : AW P (.seq x1 (.seq x2 (.seq x3 y))) st Q := AW.sq (fun _ h => AW.sq (fun _ h => AW.sq (midxN.go h2) h) h) h1
theorem AW.mx4 {ι : Type} (S : ι → St) (G : ι → Prop) (h1 : AW P x1 st (thenA (fun s => AW P x2 s (thenA (fun s => AW P x3 s (thenA (fun s => AW P x4 s (thenA (midxN S G) Q)) Q)) Q)) Q)) (h2 : ∀ i, G i → AW P y (S i) Q) : AW P (.seq x1 (.seq x2 (.seq x3 (.seq x4 y)))) st Q := AW.sq (fun _ h => AW.sq (fun _ h => AW.sq (fun _ h => AW.sq (midxN.go h2) h) h) h) h1
theorem AW.mx5 {ι : Type} (S : ι → St) (G : ι → Prop) (h1 : AW P x1 st (thenA (fun s => AW P x2 s (thenA (fun s => AW P x3 s (thenA (fun s => AW P x4 s (thenA (fun s => AW P x5 s (thenA (midxN S G) Q)) Q)) Q)) Q)) Q)) (h2 : ∀ i, G i → AW P y (S i) Q) : AW P (.seq x1 (.seq x2 (.seq x3 (.seq x4 (.seq x5 y))))) st Q := AW.sq (fun _ h => AW.sq (fun _ h => AW.sq (fun _ h => AW.sq (fun _ h => AW.sq (midxN.go h2) h) h) h) h) h1
theorem AW.mx6 {ι : Type} (S : ι → St) (G : ι → Prop) (h1 : AW P x1 st (thenA (fun s => AW P x2 s (thenA (fun s => AW P x3 s (thenA (fun s => AW P x4 s (thenA (fun s => AW P x5 s (thenA (fun s => AW P x6 s (thenA (midxN S G) Q)) Q)) Q)) Q)) Q)) Q)) (h2 : ∀ i, G i → AW P y (S i) Q) : AW P (.seq x1 (.seq x2 (.seq x3 (.seq x4 (.seq x5 (.seq x6 y)))))) st Q := AW.sq (fun _ h => AW.sq (fun _ h => AW.sq (fun _ h => AW.sq (fun _ h => AW.sq (fun _ h => AW.sq (midxN.go h2) h) h) h) h) h) h1
theorem AW.mx7 {ι : Type} (S : ι → St) (G : ι → Prop) (h1 : AW P x1 st (thenA (fun s => AW P x2 s (thenA (fun s => AW P x3 s (thenA (fun s => AW P x4 s (thenA (fun s => AW P x5 s (thenA (fun s => AW P x6 s (thenA (fun s => AW P x7 s (thenA (midxN S G) Q)) Q)) Q)) Q)) Q)) Q)) Q)) (h2 : ∀ i, G i → AW P y (S i) Q) : AW P (.seq x1 (.seq x2 (.seq x3 (.seq x4 (.seq x5 (.seq x6 (.seq x7 y))))))) st Q := AW.sq (fun _ h => AW.sq (fun _ h => AW.sq (fun _ h => AW.sq (fun _ h => AW.sq (fun _ h => AW.sq (fun _ h => AW.sq (midxN.go h2) h) h) h) h) h) h) h1
theorem AW.mx8 {ι : Type} (S : ι → St) (G : ι → Prop) (h1 : AW P x1 st (thenA (fun s => AW P x2 s (thenA (fun s => AW P x3 s (thenA (fun s => AW P x4 s (thenA (fun s => AW P x5 s (thenA (fun s => AW P x6 s (thenA (fun s => AW P x7 s (thenA (fun s => AW P x8 s (thenA (midxN S G) Q)) Q)) Q)) Q)) Q)) Q)) Q)) Q)) (h2 : ∀ i, G i → AW P y (S i) Q) : AW P (.seq x1 (.seq x2 (.seq x3 (.seq x4 (.seq x5 (.seq x6 (.seq x7 (.seq x8 y)))))))) st Q := AW.sq (fun _ h => AW.sq (fun _ h => AW.sq (fun _ h => AW.sq (fun _ h => AW.sq (fun _ h => AW.sq (fun _ h => AW.sq (fun _ h => AW.sq (midxN.go h2) h) h) h) h) h) h) h) h1
theorem AW.mx9 {ι : Type} (S : ι → St) (G : ι → Prop) (h1 : AW P x1 st (thenA (fun s => AW P x2 s (thenA (fun s => AW P x3 s (thenA (fun s => AW P x4 s (thenA (fun s => AW P x5 s (thenA (fun s => AW P x6 s (thenA (fun s => AW P x7 s (thenA (fun s => AW P x8 s (thenA (fun s => AW P x9 s (thenA (midxN S G) Q)) Q)) Q)) Q)) Q)) Q)) Q)) Q)) Q)) (h2 : ∀ i, G i → AW P y (S i) Q) : AW P (.seq x1 (.seq x2 (.seq x3 (.seq x4 (.seq x5 (.seq x6 (.seq x7 (.seq x8 (.seq x9 y))))))))) st Q := AW.sq (fun _ h => AW.sq (fun _ h => AW.sq (fun _ h => AW.sq (fun _ h => AW.sq (fun _ h => AW.sq (fun _ h => AW.sq (fun _ h => AW.sq (fun _ h => AW.sq (midxN.go h2) h) h) h) h) h) h) h) h) h1
end
end Go.Proofs.Ytaiaackeljlbfaa.Am
end
