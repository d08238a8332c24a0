import Derived.Test.YtleahjfgedfgmaaZAmB
section
set_option linter.unusedVariables false
namespace Go.Proofs.Ytleahjfgedfgmaa.Am
open Go Go.RowKit Go.Proofs
abbrev tyOf {p : Prop} (_ : p) : Prop:=p
theorem stA : tyOf (And.intro (@byL_B) <|
  And.intro (@byL_cons) <|
  And.intro (@byL_nil) <|
  And.intro (@if_le) <|
  And.intro (@bb_tt) <|
  And.intro (@bb_ff) <|
  And.intro (@bb_tf) <|
  And.intro (@bb_ft) <|
  And.intro (@b_add) <|
  And.intro (@b_sub) <|
  And.intro (@b_mul) <|
  And.intro (@b_quo) <|
  And.intro (@b_rem) <|
  And.intro (@b_and) <|
  And.intro (@b_or) <|
  And.intro (@b_xor) <|
  And.intro (@b_eql) <|
  And.intro (@b_neq) <|
  And.intro (@b_lss) <|
  And.intro (@b_leq) <|
  And.intro (@b_gtr) <|
  And.intro (@b_geq) <|
  And.intro (@b_shr_u64) <|
  And.intro (@b_shl_u64) <|
  And.intro (@b_shr_i64) <|
  And.intro (@b_shl_i64) <|
  And.intro (@b_shr_u32) <|
  And.intro (@b_shl_u32) <|
  And.intro (@b_shr_u8) <|
  And.intro (@b_shl_u8) <|
  And.intro (@agg_cells) <|
  And.intro (@ref_cells) <|
  And.intro (@v_cells) <|
  And.intro (@mB_cells) <|
  And.intro (@mI_cells) <|
  And.intro (@bys_cells) <|
  And.intro (@list_cells) <|
  And.intro (@nth_B) <|
  And.intro (@nth_I) <|
  And.intro (@all_B) <|
  And.intro (@all_I) <|
  And.intro (@sc_B) <|
  And.intro (@sc_I) <|
  And.intro (@sc_v) <|
  And.intro (@set_B) <|
  And.intro (@set_I) <|
  And.intro (@tt_eq) <|
  And.intro (@wrap_id) <|
  And.intro (@Int.cast_ofNat_Int) <|
  And.intro (@decide_true) <|
  And.intro (@decide_false) <|
  And.intro (@not_true_eq_false) <|
  And.intro (@Nat.le_refl) <|
  And.intro (@Int.le_refl) <|
  And.intro (@List.size_toArray.{0}) <|
  And.intro (@false_and) <|
  And.intro (@and_false) <|
  And.intro (@and_assoc) <|
  And.intro (@List.map_cons.{0,0}) <|
  And.intro (@List.map_nil.{0,0}) <|
  And.intro (@List.nil_append.{0}) <|
  And.intro (@List.cons_append.{0}) <|
  And.intro (@List.singleton_append.{0}) <|
  And.intro (@List.append_nil.{0}) <|
  And.intro (@List.length_cons.{0}) <|
  And.intro (@List.length_nil.{0}) <|
  And.intro (@List.length_map.{0,0}) <|
  And.intro (@List.length_append.{0}) <|
  And.intro (@List.flatMap_cons.{0,0}) <|
  And.intro (@List.flatMap_nil.{0,0}) <|
  And.intro (@List.take_zero.{0}) <|
  And.intro (@List.drop_zero.{0}) <|
  And.intro (@List.take_succ_cons.{0}) <|
  And.intro (@List.drop_succ_cons.{0}) <|
  And.intro (@List.take_nil.{0}) <|
  And.intro (@List.drop_nil.{0}) <|
  And.intro (@List.head?_cons.{0}) <|
  And.intro (@List.all_cons.{0}) <|
  And.intro (@List.all_nil.{0}) <|
  And.intro (@List.getElem?_cons_zero.{0}) <|
  And.intro (@List.getElem?_cons_succ.{0}) <|
  And.intro (@List.getElem?_nil.{0}) <|
  And.intro (@List.mem_cons.{0}) <|
  And.intro (@List.not_mem_nil.{0}) <|
  And.intro (@forall_eq_or_imp.{1}) <|
  And.intro (@forall_eq_or_imp.{0}) <|
  And.intro (@forall_eq.{1}) <|
  And.intro (@forall_eq.{0}) <|
  And.intro (@Option.getD_some.{0}) <|
  And.intro (@Option.getD_none.{0}) <|
  And.intro (@Option.map_some.{0,0}) <|
  And.intro (@Option.map_none.{0,0}) <|
  And.intro (@Option.isNone_some.{0}) <|
  And.intro (@Option.isNone_none.{0}) <|
  And.intro (@Option.isSome_some.{0}) <|
  And.intro (@Option.isSome_none.{0}) <|
  And.intro (@ite_true.{1}) <|
  And.intro (@ite_true.{0}) <|
  And.intro (@ite_false.{1}) <|
  And.intro (@ite_false.{0}) <|
  And.intro (@if_true.{1}) <|
  And.intro (@if_true.{0}) <|
  And.intro (@if_false.{1}) <|
  And.intro (@if_false.{0}) <|
  And.intro (@true_and) <|
  And.intro (@and_true) <|
  And.intro (@and_self) <|
  And.intro (@false_or) <|
  And.intro (@or_false) <|
  And.intro (@or_true) <|
  And.intro (@true_or) <|
  And.intro (@implies_true.{1}) <|
  And.intro (@implies_true.{0}) <|
  And.intro (@forall_const.{1}) <|
  And.intro (@forall_const.{0}) <|
  And.intro (@false_implies) <|
  And.intro (@not_false_eq_true) <|
  And.intro (@Bool.and_true) <|
  And.intro (@Bool.true_and) <|
  And.intro (@Bool.and_false) <|
  And.intro (@Bool.false_and) <|
  And.intro (@Bool.not_true) <|
  And.intro (@Bool.not_false) <|
  And.intro (@Bool.false_eq_true) <|
  And.intro (@Bool.true_eq_false) <|
  And.intro (@Int.toNat_natCast) <|
  And.intro (@Int.toNat_zero) <|
  And.intro (@Nat.zero_add) <|
  And.intro (@Nat.add_zero) <|
  And.intro (@Nat.sub_zero) <|
  And.intro (@Int.natCast_nonneg) <|
  And.intro (@ne_eq.{1}) <|
  And.intro (@ne_eq.{0}) <|
  And.intro (@exists_eq_left.{1}) <|
  And.intro (@exists_eq_left.{0}) <|
  And.intro (@exists_eq_left'.{1}) <|
  And.intro (@exists_eq_left'.{0}) <|
  And.intro (@exists_eq.{1}) <|
  And.intro (@exists_eq.{0}) <|
  And.intro (@exists_and_left.{1}) <|
  And.intro (@exists_and_left.{0}) <|
  And.intro (@exists_and_right.{1}) <|
  And.intro (@exists_and_right.{0}) <|
  And.intro (@Option.some.injEq.{0}) <|
  And.intro (@Prod.mk.injEq.{0,0}) <|
  And.intro (@List.cons.injEq.{0}) <|
  And.intro (@D.v.injEq) <|
  And.intro (@D.list.injEq) <|
  And.intro (@D.agg.injEq) <|
  And.intro (@mB_inj) <|
  And.intro (@mI_inj) <|
  And.intro (@Value.int.injEq) <|
  And.intro (@Value.bool.injEq) <|
  And.intro (@decide_eq_true_eq) <|
  And.intro (@decide_eq_false_iff_not) <|
  And.intro (@Bool.not_eq_true') <|
  @Bool.not_eq_false') :=
  And.intro (@byL_B) <|
  And.intro (@byL_cons) <|
  And.intro (@byL_nil) <|
  And.intro (@if_le) <|
  And.intro (@bb_tt) <|
  And.intro (@bb_ff) <|
  And.intro (@bb_tf) <|
  And.intro (@bb_ft) <|
  And.intro (@b_add) <|
  And.intro (@b_sub) <|
  And.intro (@b_mul) <|
  And.intro (@b_quo) <|
  And.intro (@b_rem) <|
  And.intro (@b_and) <|
  And.intro (@b_or) <|
  And.intro (@b_xor) <|
  And.intro (@b_eql) <|
  And.intro (@b_neq) <|
  And.intro (@b_lss) <|
  And.intro (@b_leq) <|
  And.intro (@b_gtr) <|
  And.intro (@b_geq) <|
  And.intro (@b_shr_u64) <|
  And.intro (@b_shl_u64) <|
  And.intro (@b_shr_i64) <|
  And.intro (@b_shl_i64) <|
  And.intro (@b_shr_u32) <|
  And.intro (@b_shl_u32) <|
  And.intro (@b_shr_u8) <|
  And.intro (@b_shl_u8) <|
  And.intro (@agg_cells) <|
  And.intro (@ref_cells) <|
  And.intro (@v_cells) <|
  And.intro (@mB_cells) <|
  And.intro (@mI_cells) <|
  And.intro (@bys_cells) <|
  And.intro (@list_cells) <|
  And.intro (@nth_B) <|
  And.intro (@nth_I) <|
  And.intro (@all_B) <|
  And.intro (@all_I) <|
  And.intro (@sc_B) <|
  And.intro (@sc_I) <|
  And.intro (@sc_v) <|
  And.intro (@set_B) <|
  And.intro (@set_I) <|
  And.intro (@tt_eq) <|
  And.intro (@wrap_id) <|
  And.intro (@Int.cast_ofNat_Int) <|
  And.intro (@decide_true) <|
  And.intro (@decide_false) <|
  And.intro (@not_true_eq_false) <|
  And.intro (@Nat.le_refl) <|
  And.intro (@Int.le_refl) <|
  And.intro (@List.size_toArray.{0}) <|
  And.intro (@false_and) <|
  And.intro (@and_false) <|
  And.intro (@and_assoc) <|
  And.intro (@List.map_cons.{0,0}) <|
  And.intro (@List.map_nil.{0,0}) <|
  And.intro (@List.nil_append.{0}) <|
  And.intro (@List.cons_append.{0}) <|
  And.intro (@List.singleton_append.{0}) <|
  And.intro (@List.append_nil.{0}) <|
  And.intro (@List.length_cons.{0}) <|
  And.intro (@List.length_nil.{0}) <|
  And.intro (@List.length_map.{0,0}) <|
  And.intro (@List.length_append.{0}) <|
  And.intro (@List.flatMap_cons.{0,0}) <|
  And.intro (@List.flatMap_nil.{0,0}) <|
  And.intro (@List.take_zero.{0}) <|
  And.intro (@List.drop_zero.{0}) <|
  And.intro (@List.take_succ_cons.{0}) <|
  And.intro (@List.drop_succ_cons.{0}) <|
  And.intro (@List.take_nil.{0}) <|
  And.intro (@List.drop_nil.{0}) <|
  And.intro (@List.head?_cons.{0}) <|
  And.intro (@List.all_cons.{0}) <|
  And.intro (@List.all_nil.{0}) <|
  And.intro (@List.getElem?_cons_zero.{0}) <|
  And.intro (@List.getElem?_cons_succ.{0}) <|
  And.intro (@List.getElem?_nil.{0}) <|
  And.intro (@List.mem_cons.{0}) <|
  And.intro (@List.not_mem_nil.{0}) <|
  And.intro (@forall_eq_or_imp.{1}) <|
  And.intro (@forall_eq_or_imp.{0}) <|
  And.intro (@forall_eq.{1}) <|
  And.intro (@forall_eq.{0}) <|
  And.intro (@Option.getD_some.{0}) <|
  And.intro (@Option.getD_none.{0}) <|
  And.intro (@Option.map_some.{0,0}) <|
  And.intro (@Option.map_none.{0,0}) <|
  And.intro (@Option.isNone_some.{0}) <|
  And.intro (@Option.isNone_none.{0}) <|
  And.intro (@Option.isSome_some.{0}) <|
  And.intro (@Option.isSome_none.{0}) <|
  And.intro (@ite_true.{1}) <|
  And.intro (@ite_true.{0}) <|
  And.intro (@ite_false.{1}) <|
  And.intro (@ite_false.{0}) <|
  And.intro (@if_true.{1}) <|
  And.intro (@if_true.{0}) <|
  And.intro (@if_false.{1}) <|
  And.intro (@if_false.{0}) <|
  And.intro (@true_and) <|
  And.intro (@and_true) <|
  And.intro (@and_self) <|
  And.intro (@false_or) <|
  And.intro (@or_false) <|
  And.intro (@or_true) <|
  And.intro (@true_or) <|
  And.intro (@implies_true.{1}) <|
  And.intro (@implies_true.{0}) <|
  And.intro (@forall_const.{1}) <|
  And.intro (@forall_const.{0}) <|
  And.intro (@false_implies) <|
  And.intro (@not_false_eq_true) <|
  And.intro (@Bool.and_true) <|
  And.intro (@Bool.true_and) <|
  And.intro (@Bool.and_false) <|
  And.intro (@Bool.false_and) <|
  And.intro (@Bool.not_true) <|
  And.intro (@Bool.not_false) <|
  And.intro (@Bool.false_eq_true) <|
  And.intro (@Bool.true_eq_false) <|
  And.intro (@Int.toNat_natCast) <|
  And.intro (@Int.toNat_zero) <|
  And.intro (@Nat.zero_add) <|
  And.intro (@Nat.add_zero) <|
  And.intro (@Nat.sub_zero) <|
  And.intro (@Int.natCast_nonneg) <|
  And.intro (@ne_eq.{1}) <|
  And.intro (@ne_eq.{0}) <|
  And.intro (@exists_eq_left.{1}) <|
  And.intro (@exists_eq_left.{0}) <|
  And.intro (@exists_eq_left'.{1}) <|
  And.intro (@exists_eq_left'.{0}) <|
  And.intro (@exists_eq.{1}) <|
  And.intro (@exists_eq.{0}) <|
  And.intro (@exists_and_left.{1}) <|
  And.intro (@exists_and_left.{0}) <|
  And.intro (@exists_and_right.{1}) <|
  And.intro (@exists_and_right.{0}) <|
  And.intro (@Option.some.injEq.{0}) <|
  And.intro (@Prod.mk.injEq.{0,0}) <|
  And.intro (@List.cons.injEq.{0}) <|
  And.intro (@D.v.injEq) <|
  And.intro (@D.list.injEq) <|
  And.intro (@D.agg.injEq) <|
  And.intro (@mB_inj) <|
  And.intro (@mI_inj) <|
  And.intro (@Value.int.injEq) <|
  And.intro (@Value.bool.injEq) <|
  And.intro (@decide_eq_true_eq) <|
  And.intro (@decide_eq_false_iff_not) <|
  And.intro (@Bool.not_eq_true') <|
  @Bool.not_eq_false'
theorem stH : tyOf (And.intro (@not_true_eq_false) <|
  And.intro (@not_false_eq_true) <|
  And.intro (@decide_true) <|
  And.intro (@decide_false) <|
  And.intro (@Decidable.not_not) <|
  And.intro (@Bool.not_true) <|
  And.intro (@Bool.not_false) <|
  And.intro (@decide_eq_true_eq) <|
  And.intro (@decide_eq_false_iff_not) <|
  And.intro (@Bool.not_eq_true') <|
  And.intro (@Bool.not_eq_false') <|
  And.intro (@Bool.not_eq_true) <|
  And.intro (@Bool.not_eq_false) <|
  And.intro (@Bool.and_eq_true) <|
  And.intro (@Bool.or_eq_true) <|
  And.intro (@Bool.false_eq_true) <|
  And.intro (@Bool.true_eq_false) <|
  And.intro (@Int.not_lt) <|
  @Int.not_le) :=
  And.intro (@not_true_eq_false) <|
  And.intro (@not_false_eq_true) <|
  And.intro (@decide_true) <|
  And.intro (@decide_false) <|
  And.intro (@Decidable.not_not) <|
  And.intro (@Bool.not_true) <|
  And.intro (@Bool.not_false) <|
  And.intro (@decide_eq_true_eq) <|
  And.intro (@decide_eq_false_iff_not) <|
  And.intro (@Bool.not_eq_true') <|
  And.intro (@Bool.not_eq_false') <|
  And.intro (@Bool.not_eq_true) <|
  And.intro (@Bool.not_eq_false) <|
  And.intro (@Bool.and_eq_true) <|
  And.intro (@Bool.or_eq_true) <|
  And.intro (@Bool.false_eq_true) <|
  And.intro (@Bool.true_eq_false) <|
  And.intro (@Int.not_lt) <|
  @Int.not_le
theorem stU : tyOf (And.intro (@St.upd.eq_1) <| And.intro (@St.put.eq_1) <| And.intro (@List.nil_append.{0}) <| And.intro (@List.cons_append.{0}) <| And.intro (@List.singleton_append.{0}) <| @List.append_nil.{0}) :=
  And.intro (@St.upd.eq_1) <| And.intro (@St.put.eq_1) <| And.intro (@List.nil_append.{0}) <| And.intro (@List.cons_append.{0}) <| And.intro (@List.singleton_append.{0}) <| @List.append_nil.{0}
section
variable {E : Env} {ops ops' : Array Oper} {st s : St} {acc : List (V × List (Nat × Ob))}
theorem awl_nil2 {K : St → Prop} (h : (V → V) → K st) : Awl E ops [] st K:=awl_nil (h id)
theorem awc_nilq {A B C : List (V × List (Nat × Ob)) → St → Prop} (h1 : A acc st) (h2 : B acc st) (h3 : (V → V) → C acc st) : Awc E ops [] st acc (fun δ s=>A δ s ∧ B δ s ∧ C δ s):=awc_nil ⟨h1,h2,h3 id⟩
theorem awc_leaf2 {B : List Nat} {δ : List (V × List (Nat × Ob))} {l : List Nat} {Q : Exit → St → Prop} (dd : List (Option Tmp)) (css : List (List (Option Bool))) (hd : ops.toList.map (·.dst) = dd) (hc : codesAll B ops.toList.length 0 ops.toList.length = css)
    (h2 : pairsB B 0 ops.toList (δ.map idsO) = true) (h1 : Each E ops dd st δ css ops.toList δ) (h3 : (V → V) → Q .normal (s.keep l)) :
    Awc E ops' [] s δ fun δ s=>each E ops B st δ 0 ops.toList δ ∧ pairs B 0 ops.toList δ ∧ Q .normal (s.keep l):=awc_leaf dd css hd hc h2 h1 (h3 id)
end
attribute [go_sem] awl ev1 evk evc gv e_move e_pick e_bin binW e_un e_cnv e_conv e_str e_mark e_copy e_extract e_len e_mm e_nil e_index e_field e_load e_fld e_cut e_alloc e_box e_make e_build e_lit e_store e_app e_call e_callF idsA killL so args pus pu pu1 toDL toD toD1 toDs elems idsW idsV lenV oint cutOk ldV subD newD fillV cellsV one1 one0 zD cD0 scs St.upd St.put St.ev St.keep gt go tmOf ofD dOk cV cV0 renM Value.oneCell' keepL freshL vaOL outB wkTm subL ninL injL nm resW resL resV shift ren ren2 ren1 va va2 va1 inDom
attribute [go_sem] stA
theorem ownO_box (l : List V) : ownO (some (.box l)) = own1L l:=rfl
theorem ownO_row (e : TypeId) (s : Nat) (l : List D) : ownO (some (.row e s l)) = []:=rfl
theorem ownO_rowv (e : TypeId) (l : List V) : ownO (some (.rowv e l)) = own1L l:=rfl
theorem ownO_opq (R : Obj → Prop) : ownO (some (.opq R)) = []:=rfl
theorem ownO_mp (l : List (Int × D)) : ownO (some (.mp l)) = []:=rfl
theorem ownO_dead : ownO (some .dead) = []:=rfl
theorem ownO_none : ownO none = []:=rfl
section
variable (ρ : Nat → Nat) (Pd : D → Prop) (dom : Nat → Prop)
theorem renO_box (l : List V) : renO ρ (.box l) = .box (l.map (ren1 ρ)):=rfl
theorem renO_row (e : TypeId) (s : Nat) (l : List D) : renO ρ (.row e s l) = .row e s l:=rfl
theorem renO_rowv (e : TypeId) (l : List V) : renO ρ (.rowv e l) = .rowv e (l.map (ren1 ρ)):=rfl
theorem renO_opq (R : Obj → Prop) : renO ρ (.opq R) = .opq R:=rfl
theorem renO_mp (l : List (Int × D)) : renO ρ (.mp l) = .mp l:=rfl
theorem renO_dead : renO ρ .dead = .dead:=rfl
theorem vaO_box (l : List V) : vaO Pd dom (.box l) = ∀ x ∈ l,va1 Pd dom x:=rfl
theorem vaO_row (e : TypeId) (s : Nat) (l : List D) : vaO Pd dom (.row e s l) = ∀ d ∈ l,Pd d:=rfl
theorem vaO_rowv (e : TypeId) (l : List V) : vaO Pd dom (.rowv e l) = ∀ x ∈ l,va1 Pd dom x:=rfl
theorem vaO_opq (R : Obj → Prop) : vaO Pd dom (.opq R) = True:=rfl
theorem vaO_mp (l : List (Int × D)) : vaO Pd dom (.mp l) = ∀ p ∈ l,Pd p.2:=rfl
theorem vaO_dead : vaO Pd dom .dead = False:=rfl
end
attribute [go_sem] renO_box renO_row renO_rowv renO_opq renO_mp renO_dead vaO_box vaO_row vaO_rowv vaO_opq vaO_mp vaO_dead
attribute [go_sem] ownO_box ownO_row ownO_rowv ownO_opq ownO_mp ownO_dead ownO_none
attribute [go_sem] e_atom e_mkmap e_lookup findM e_mapup e_s2a e_cpy e_copyE vmOf lv slOf cutC idsL e_makeC e_cap e_appZ e_callM lends addN addN.addN1 ptrs ownOL own1L own1 shM argM argsM pusM lentM lentOk memN nonN nonM renMM deadM outM pinL List.zip_cons_cons List.zip_nil_left List.zip_nil_right List.length_cons List.length_nil
end Go.Proofs.Ytleahjfgedfgmaa.Am
end
section
set_option linter.unusedVariables false
set_option linter.unusedSimpArgs false
namespace Go.Proofs.Ytleahjfgedfgmaa.Am
open Go Go.RowKit Go.Proofs
section
variable {E : Env} {ops : Array Oper} {o : Oper} {r : List Oper} {st : St} {K : List (V × List (Nat × Ob)) → St → Prop} {acc : List (V × List (Nat × Ob))}
theorem awc_skip {j : Nat} {want : Bool} {t : Tmp} {l : Array Value} (hg : o.guard = some (j,want)) (ht : gvt ops j = some t) (htn : t < st.nt) (hb : gt st.tm t = .d (.v (.tuple l))) (hd : dOkb o.dst st.nt = true)
    (h2 : Awc E ops r (st.upd o.dst (.d (.v undef)) []) (acc ++ [(.d (.v undef),[])]) K) : Awc E ops (o :: r) st acc K:=by
  have hv : gv ops st j = some none:=by
    unfold gvt at ht
    unfold gv
    split at ht
    · rename_i q hq
      simp only [hq,ht,if_pos htn,hb]
    · cases ht
  refine ⟨?_⟩
  simp only [awc,ev1,hg,hv]
  exact ⟨dOkb_ok hd,h2.h⟩
variable {δ : List (V × List (Nat × Ob))} {dd : List (Option Tmp)} {css : List (List (Option Bool))} {cs : List (Option Bool)} {os : List Oper} {ds : List (V × List (Nat × Ob))}
theorem each_skip {j : Nat} {want : Bool} {t : Tmp} {l : Array Value} (hg : o.guard = some (j,want)) (ht : gvt ops j = some t) (htn : t < st.nt) (hd : dOkb o.dst st.nt = true)
    (hr : Each E ops dd st δ css os ds)
    (hb : ∀ b,gt (Sg3 b cs 0 dd δ st).tm t = .d (.v (.tuple l)):=by (intro bb;simp only [Sg3,St.updIf,St.upd,St.put,ifc_nil,gt_ifc,gt,List.nil_append,List.cons_append,Option.some.injEq,reduceCtorEq,Nat.reduceEqDiff,↓reduceIte,ite_self];try rfl)) : Each E ops dd st δ (cs :: css) (o :: os) ((.d (.v undef),[]) :: ds):=by
  refine ⟨?_⟩
  simp only [eachT]
  refine ⟨fun b K hK=>?_,hr.h⟩
  have hnt : (Sg3 b cs 0 dd δ st).nt = st.nt:=Sg3_nt _ _ _ _ _
  have hv : gv ops (Sg3 b cs 0 dd δ st) j = some none:=by
    unfold gvt at ht
    unfold gv
    split at ht
    · rename_i q hq
      simp only [hq,ht,hnt,if_pos htn,hb]
    · cases ht
  simp only [ev1,hg,hv]
  exact ⟨by rw [hnt];exact dOkb_ok hd,hK⟩
end
end Go.Proofs.Ytleahjfgedfgmaa.Am
end
section
set_option linter.unusedVariables false
set_option linter.unusedSimpArgs false
namespace Go.Proofs.Ytleahjfgedfgmaa.Am
open Go Go.RowKit Go.Proofs
def rdO : Op → List Operand
  | .move x=>[x]
  | .assign x=>[x]
  | .pick c x y=>[c,x,y]
  | .box _ x=>[x]
  | .build _ ps=>ps.toList.map (·.2)
  | .buildSlice _ _ ps=>ps.toList.map (·.2)
  | .load _ x=>[x]
  | .store _ x y=>[x,y]
  | .nilCheck x=>[x]
  | .binOp _ _ x y _=>[x,y]
  | .unOp _ _ x=>[x]
  | .convert _ _ x=>[x]
  | .makeSlice _ x c=>[x,c]
  | .slice _ x lo hi mx=>x :: (lo.toList ++ hi.toList ++ mx.toList)
  | .fieldAddr _ x _=>[x]
  | .field _ x _=>[x]
  | .indexAddr _ x i=>[x,i]
  | .extract x _=>[x]
  | .makeMap _ x=>x.toList
  | .lookup _ x i _=>[x,i]
  | .mapUpdate _ m k x=>[m,k,x]
  | .sliceToArrayPointer _ x=>[x]
  | .call c=>c.args.toList
  | _=>[]
def hfO : Op → Bool
  | .move _=>true
  | .assign _=>true
  | .pick ..=>true
  | .nilCheck _=>true
  | .binOp ..=>true
  | .unOp ..=>true
  | .slice ..=>true
  | .fieldAddr ..=>true
  | .field ..=>true
  | .indexAddr ..=>true
  | .extract ..=>true
  | .sliceToArrayPointer ..=>true
  | _=>false
section
variable {E : Env} {P : Program} {o : Oper} {st s2 : St} {K : V → List (Nat × Ob) → Prop}
theorem args_cg : ∀ {l : List Operand} (hp : List (Nat × Ob)),(∀ y ∈ l,s2.ev y = st.ev y) → args hp s2 l = args hp st l
  | [],_,_=>rfl
  | x :: r,hp,h=>by
    simp only [args,h x (List.mem_cons_self ..),args_cg hp fun y hy=>h y (List.mem_cons_of_mem _ hy)]
theorem pus_cg : ∀ {l : List Operand},(∀ y ∈ l,s2.ev y = st.ev y) → pus s2 l = pus st l
  | [],_=>rfl
  | x :: r,h=>by simp only [pus,h x (List.mem_cons_self ..),pus_cg fun y hy=>h y (List.mem_cons_of_mem _ hy)]
theorem idsA_cg : ∀ {l : List Operand},(∀ y ∈ l,s2.ev y = st.ev y) → idsA s2 l = idsA st l
  | [],_=>rfl
  | x :: r,h=>by simp only [idsA,h x (List.mem_cons_self ..),idsA_cg fun y hy=>h y (List.mem_cons_of_mem _ hy)]
theorem ptrs_cg {b : Bool} : ∀ {l : List Operand},(∀ y ∈ l,s2.ev y = st.ev y) → ptrs b s2 l = ptrs b st l
  | [],_=>rfl
  | x :: r,h=>by simp only [ptrs,h x (List.mem_cons_self ..),ptrs_cg fun y hy=>h y (List.mem_cons_of_mem _ hy)]
theorem lends_cg {b : Bool} {l : List Operand} (hh : s2.hp = st.hp) (h : ∀ y ∈ l,s2.ev y = st.ev y) : lends b s2 l = lends b st l:=by
  simp only [lends,hh,ptrs_cg h]
theorem argsM_cg {b : Bool} {τ : Nat → Nat} (hh : s2.hp = st.hp) : ∀ {l : List Operand},(∀ y ∈ l,s2.ev y = st.ev y) → argsM b s2 τ l = argsM b st τ l
  | [],_=>rfl
  | x :: r,h=>by simp only [argsM,hh,h x (List.mem_cons_self ..),argsM_cg hh fun y hy=>h y (List.mem_cons_of_mem _ hy)]
theorem idsL_cg {b : Bool} : ∀ {l : List Operand},(∀ y ∈ l,s2.ev y = st.ev y) → idsL b s2 l = idsL b st l
  | [],_=>rfl
  | x :: r,h=>by simp only [idsL,h x (List.mem_cons_self ..),idsL_cg fun y hy=>h y (List.mem_cons_of_mem _ hy)]
theorem pusM_cg {b : Bool} : ∀ {l : List Operand},(∀ y ∈ l,s2.ev y = st.ev y) → pusM b s2 l = pusM b st l
  | [],_=>rfl
  | x :: r,h=>by simp only [pusM,h x (List.mem_cons_self ..),pusM_cg fun y hy=>h y (List.mem_cons_of_mem _ hy)]
theorem toDL_cg : ∀ {l : List (Nat × Operand)} (hp : List (Nat × Ob)) (k : Nat),(∀ y ∈ l,s2.ev y.2 = st.ev y.2) → toDL hp s2 l k = toDL hp st l k
  | [],_,_,_=>rfl
  | (i,x) :: r,hp,k,h=>by
    simp only [toDL,h (i,x) (List.mem_cons_self ..),toDL_cg hp (k + 1) fun y hy=>h y (List.mem_cons_of_mem _ hy)]
theorem fillV_cg {pl : List (Nat × Nat)} : ∀ {l : List (Nat × Operand)} (v : List V),(∀ y ∈ l,s2.ev y.2 = st.ev y.2) → fillV pl s2 l v = fillV pl st l v
  | [],_,_=>rfl
  | (i,x) :: r,v,h=>by
    simp only [fillV,h (i,x) (List.mem_cons_self ..),fun v=>fillV_cg (pl:=pl) v fun y hy=>h y (List.mem_cons_of_mem _ hy)]
theorem oint_cg {x : Option Operand} (h : ∀ y ∈ x.toList,s2.ev y = st.ev y) : oint s2 x = oint st x:=by
  cases x with
  | none=>rfl
  | some y=>simp only [oint,h y (by simp)]
theorem cg_evk (hr : ∀ y ∈ rdO o.op,s2.ev y = st.ev y) (hn : s2.nt = st.nt) (hh : hfO o.op = true ∨ s2.hp = st.hp) (h : evk E o st K) : evk E o s2 K:=by
  unfold evk at h ⊢
  generalize o.op = op at *
  cases op <;> try exact h.elim
  case call c =>
    replace hh : s2.hp = st.hp:=hh.resolve_left (by simp [hfO])
    simp only [rdO] at hr
    dsimp only at h ⊢
    unfold evc at h ⊢
    split at h
    all_goals try exact h.elim
    · dsimp only at hr ⊢
      split at h
      · unfold e_callM at h ⊢
        rw [hn,lends_cg hh hr,argsM_cg hh hr,pusM_cg hr,idsL_cg hr,hh]
        exact h
      · split at h
        · unfold e_atom at h ⊢
          rw [hn,hh]
          obtain ⟨h1,h⟩:=h
          refine ⟨h1,?_⟩
          split at h
          · rename_i hx
            rw [hx] at hr
            simp only [List.mem_cons,List.not_mem_nil,or_false,forall_eq_or_imp,forall_eq] at hr
            rw [hr];exact h
          · rename_i hx
            rw [hx] at hr
            simp only [List.mem_cons,List.not_mem_nil,or_false,forall_eq_or_imp,forall_eq] at hr
            rw [hr.1,hr.2];exact h
          · exact h.elim
        · unfold e_call e_callF at h ⊢
          rw [hn,args_cg _ hr,pus_cg hr,idsA_cg hr,hh]
          exact h
    · simp at hr
      unfold e_len at h ⊢
      rw [hn,hr];exact h
    · simp at hr
      unfold e_cap at h ⊢
      rw [hn,hr];exact h
    · simp at hr
      unfold e_app e_appZ at h ⊢
      rw [hn,hh,hr.1,hr.2];exact h
    · simp at hr
      unfold e_cpy e_copyE e_copy at h ⊢
      rw [hn,hh,hr.1,hr.2];exact h
    · dsimp only at hr
      unfold e_mm at h ⊢
      rw [hn]
      obtain ⟨h1,h⟩:=h
      refine ⟨h1,?_⟩
      split at h
      · rename_i hx
        rw [hx] at hr
        simp only [List.mem_cons,List.not_mem_nil,or_false,forall_eq_or_imp,forall_eq] at hr
        rw [hr.1,hr.2];exact h
      · rename_i hx
        rw [hx] at hr
        simp only [List.mem_cons,List.not_mem_nil,or_false,forall_eq_or_imp,forall_eq] at hr
        rw [hr.1,hr.2.1,hr.2.2];exact h
      · exact h.elim
    · dsimp only at hr
      unfold e_mm at h ⊢
      rw [hn]
      obtain ⟨h1,h⟩:=h
      refine ⟨h1,?_⟩
      split at h
      · rename_i hx
        rw [hx] at hr
        simp only [List.mem_cons,List.not_mem_nil,or_false,forall_eq_or_imp,forall_eq] at hr
        rw [hr.1,hr.2];exact h
      · rename_i hx
        rw [hx] at hr
        simp only [List.mem_cons,List.not_mem_nil,or_false,forall_eq_or_imp,forall_eq] at hr
        rw [hr.1,hr.2.1,hr.2.2];exact h
      · exact h.elim
  all_goals simp only [rdO,List.mem_cons,List.not_mem_nil,or_false,forall_eq_or_imp,forall_eq] at hr
  all_goals dsimp only at h ⊢
  case move=>unfold e_move at h ⊢;rw [hn,hr];exact h
  case assign=>unfold e_move at h ⊢;rw [hn,hr];exact h
  case pick=>unfold e_pick at h ⊢;rw [hn,hr.1,hr.2.1,hr.2.2];exact h
  case nilCheck=>unfold e_nil at h ⊢;rw [hn,hr];exact h
  case binOp=>unfold e_bin at h ⊢;rw [hn,hr.1,hr.2];exact h
  case unOp=>unfold e_un at h ⊢;rw [hn,hr];exact h
  case fieldAddr=>unfold e_field at h ⊢;rw [hn,hr];exact h
  case field=>unfold e_fld at h ⊢;rw [hn,hr];exact h
  case indexAddr=>unfold e_index at h ⊢;rw [hn,hr.1,hr.2];exact h
  case extract=>unfold e_extract at h ⊢;rw [hn,hr];exact h
  case sliceToArrayPointer=>unfold e_s2a at h ⊢;rw [hn,hr];exact h
  case slice =>
    simp only [List.mem_append] at hr
    unfold e_cut at h ⊢
    rw [hn,hr.1,oint_cg fun y hy=>hr.2 y (.inl (.inl hy)),oint_cg fun y hy=>hr.2 y (.inl (.inr hy)),oint_cg fun y hy=>hr.2 y (.inr hy)]
    exact h
  all_goals replace hh : s2.hp = st.hp:=hh.resolve_left (by simp [hfO])
  case alloc=>unfold e_alloc at h ⊢;rw [hn,hh];exact h
  case makeMap=>unfold e_mkmap at h ⊢;rw [hn,hh];exact h
  case lookup=>unfold e_lookup at h ⊢;rw [hn,hh,hr.1,hr.2];exact h
  case mapUpdate=>unfold e_mapup at h ⊢;rw [hn,hh,hr.1,hr.2.1,hr.2.2];exact h
  case box=>unfold e_box at h ⊢;rw [hn,hh,hr];exact h
  case build=>unfold e_build at h ⊢;rw [hn];simp only [fillV_cg _ (fun y hy=>hr y.2 (List.mem_map_of_mem hy))];exact h
  case buildSlice=>unfold e_lit at h ⊢;rw [hn,hh,toDL_cg _ _ (fun y hy=>hr y.2 (List.mem_map_of_mem hy))];exact h
  case load=>unfold e_load at h ⊢;rw [hn,hh,hr];exact h
  case store=>unfold e_store at h ⊢;rw [hn,hh,hr.1,hr.2];exact h
  case makeSlice =>
    split at h
    · rename_i hc;rw [if_pos hc];unfold e_makeC at h ⊢;rw [hn,hh,hr.1,hr.2];exact h
    · rename_i hc;rw [if_neg hc];unfold e_make at h ⊢;rw [hn,hh,hr.1,hr.2];exact h
  case convert=>unfold e_cnv e_conv e_str e_mark at h ⊢;rw [hn,hh,hr];exact h
theorem pin_move {x : Operand} (h : e_move x o st K) : ∃ a b,K a b ∧ ∀ K' : V → List (Nat × Ob) → Prop,K' a b → e_move x o st K':=by
  exact ⟨_,_,h.2,fun K' hk=>⟨h.1,hk⟩⟩
theorem pin_pick {c x y : Operand} (h : e_pick c x y o st K) : ∃ a b,K a b ∧ ∀ K' : V → List (Nat × Ob) → Prop,K' a b → e_pick c x y o st K':=by
  unfold e_pick at h ⊢
  obtain ⟨h1,h⟩:=h
  split at h
  · rename_i b hb
    cases b with
    | true=>exact ⟨_,_,h.1 rfl,fun K' hk=>by simp_all⟩
    | false=>exact ⟨_,_,h.2 rfl,fun K' hk=>by simp_all⟩
  · exact h.elim
theorem pin_alloc {t : TypeId} (h : e_alloc P t o st K) : ∃ a b,K a b ∧ ∀ K' : V → List (Nat × Ob) → Prop,K' a b → e_alloc P t o st K':=by
  unfold e_alloc at h ⊢
  obtain ⟨h1,h⟩:=h
  repeat' first|exact h.elim|(split at h)|(obtain ⟨_,h⟩:=h)
  all_goals exact ⟨_,_,h,fun K' hk=>by simp_all⟩
theorem pin_box {t : TypeId} {x : Operand} (h : e_box t x o st K) : ∃ a b,K a b ∧ ∀ K' : V → List (Nat × Ob) → Prop,K' a b → e_box t x o st K':=by
  unfold e_box at h ⊢
  obtain ⟨h1,h⟩:=h
  repeat' first|exact h.elim|(split at h)|(obtain ⟨_,h⟩:=h)
  all_goals exact ⟨_,_,h,fun K' hk=>by simp_all⟩
theorem pin_build {t : TypeId} {ps : Array (Nat × Operand)} (h : e_build P t ps o st K) : ∃ a b,K a b ∧ ∀ K' : V → List (Nat × Ob) → Prop,K' a b → e_build P t ps o st K':=by
  unfold e_build at h ⊢
  obtain ⟨h1,h⟩:=h
  repeat' first|exact h.elim|(split at h)|(obtain ⟨_,h⟩:=h)
  all_goals exact ⟨_,_,h,fun K' hk=>by simp_all⟩
theorem pin_lit {t : TypeId} {n : Nat} {ps : Array (Nat × Operand)} (h : e_lit P t n ps o st K) : ∃ a b,K a b ∧ ∀ K' : V → List (Nat × Ob) → Prop,K' a b → e_lit P t n ps o st K':=by
  unfold e_lit at h ⊢
  obtain ⟨h1,h⟩:=h
  repeat' first|exact h.elim|(split at h)|(obtain ⟨_,h⟩:=h)
  all_goals exact ⟨_,_,h,fun K' hk=>by simp_all⟩
theorem pin_load {t : TypeId} {x : Operand} (h : e_load P t x o st K) : ∃ a b,K a b ∧ ∀ K' : V → List (Nat × Ob) → Prop,K' a b → e_load P t x o st K':=by
  unfold e_load at h ⊢
  obtain ⟨h1,h⟩:=h
  repeat' first|exact h.elim|(split at h)|(obtain ⟨_,h⟩:=h)
  all_goals exact ⟨_,_,h,fun K' hk=>by simp_all⟩
theorem pin_store {t : TypeId} {x y : Operand} (h : e_store P t x y o st K) : ∃ a b,K a b ∧ ∀ K' : V → List (Nat × Ob) → Prop,K' a b → e_store P t x y o st K':=by
  unfold e_store at h ⊢
  obtain ⟨h1,h⟩:=h
  repeat' first|exact h.elim|(split at h)|(obtain ⟨_,h⟩:=h)
  all_goals exact ⟨_,_,h,fun K' hk=>by simp_all⟩
theorem pin_nil {x : Operand} (h : e_nil x o st K) : ∃ a b,K a b ∧ ∀ K' : V → List (Nat × Ob) → Prop,K' a b → e_nil x o st K':=by
  unfold e_nil at h ⊢
  obtain ⟨h1,h⟩:=h
  repeat' first|exact h.elim|(split at h)|(obtain ⟨_,h⟩:=h)
  all_goals exact ⟨_,_,h,fun K' hk=>by simp_all⟩
theorem pin_un {op : UnOp} {x : Operand} (h : e_un op x o st K) : ∃ a b,K a b ∧ ∀ K' : V → List (Nat × Ob) → Prop,K' a b → e_un op x o st K':=by
  unfold e_un at h ⊢
  obtain ⟨h1,h⟩:=h
  repeat' first|exact h.elim|(split at h)|(obtain ⟨_,h⟩:=h)
  all_goals exact ⟨_,_,h,fun K' hk=>by simp_all⟩
theorem pin_make {t : TypeId} {x c : Operand} (h : e_make P t x c o st K) : ∃ a b,K a b ∧ ∀ K' : V → List (Nat × Ob) → Prop,K' a b → e_make P t x c o st K':=by
  unfold e_make at h ⊢
  obtain ⟨h1,h⟩:=h
  repeat' first|exact h.elim|(split at h)|(obtain ⟨_,h⟩:=h)
  all_goals exact ⟨_,_,h,fun K' hk=>by simp_all⟩
theorem pin_makeC {t : TypeId} {x c : Operand} (h : e_makeC P t x c o st K) : ∃ a b,K a b ∧ ∀ K' : V → List (Nat × Ob) → Prop,K' a b → e_makeC P t x c o st K':=by
  unfold e_makeC at h ⊢
  obtain ⟨h1,h⟩:=h
  repeat' first|exact h.elim|(split at h)|(obtain ⟨_,h⟩:=h)
  all_goals exact ⟨_,_,h,fun K' hk=>by simp_all⟩
theorem pin_cut {t : TypeId} {x : Operand} {lo hi mx : Option Operand} (h : e_cut P t x lo hi mx o st K) : ∃ a b,K a b ∧ ∀ K' : V → List (Nat × Ob) → Prop,K' a b → e_cut P t x lo hi mx o st K':=by
  unfold e_cut at h ⊢
  obtain ⟨h1,h⟩:=h
  repeat' first|exact h.elim|(split at h)|(obtain ⟨_,h⟩:=h)
  all_goals exact ⟨_,_,h,fun K' hk=>by simp_all⟩
theorem pin_field {s : TypeId} {x : Operand} {f : Nat} (h : e_field P s x f o st K) : ∃ a b,K a b ∧ ∀ K' : V → List (Nat × Ob) → Prop,K' a b → e_field P s x f o st K':=by
  unfold e_field at h ⊢
  obtain ⟨h1,h⟩:=h
  repeat' first|exact h.elim|(split at h)|(obtain ⟨_,h⟩:=h)
  all_goals exact ⟨_,_,h,fun K' hk=>by simp_all⟩
theorem pin_fld {s : TypeId} {x : Operand} {f : Nat} (h : e_fld P s x f o st K) : ∃ a b,K a b ∧ ∀ K' : V → List (Nat × Ob) → Prop,K' a b → e_fld P s x f o st K':=by
  unfold e_fld at h ⊢
  obtain ⟨h1,h⟩:=h
  repeat' first|exact h.elim|(split at h)|(obtain ⟨_,h⟩:=h)
  all_goals exact ⟨_,_,h,fun K' hk=>by simp_all⟩
theorem pin_index {t : TypeId} {x i : Operand} (h : e_index P t x i o st K) : ∃ a b,K a b ∧ ∀ K' : V → List (Nat × Ob) → Prop,K' a b → e_index P t x i o st K':=by
  unfold e_index at h ⊢
  obtain ⟨h1,h⟩:=h
  repeat' first|exact h.elim|(split at h)|(obtain ⟨_,h⟩:=h)
  all_goals exact ⟨_,_,h,fun K' hk=>by simp_all⟩
theorem pin_extract {x : Operand} {i : Nat} (h : e_extract x i o st K) : ∃ a b,K a b ∧ ∀ K' : V → List (Nat × Ob) → Prop,K' a b → e_extract x i o st K':=by
  unfold e_extract at h ⊢
  obtain ⟨h1,h⟩:=h
  repeat' first|exact h.elim|(split at h)|(obtain ⟨_,h⟩:=h)
  all_goals exact ⟨_,_,h,fun K' hk=>by simp_all⟩
theorem pin_len {t : TypeId} {x : Operand} (h : e_len P t x o st K) : ∃ a b,K a b ∧ ∀ K' : V → List (Nat × Ob) → Prop,K' a b → e_len P t x o st K':=by
  unfold e_len at h ⊢
  obtain ⟨h1,h⟩:=h
  repeat' first|exact h.elim|(split at h)|(obtain ⟨_,h⟩:=h)
  all_goals exact ⟨_,_,h,fun K' hk=>by simp_all⟩
theorem pin_cap {t : TypeId} {x : Operand} (h : e_cap P t x o st K) : ∃ a b,K a b ∧ ∀ K' : V → List (Nat × Ob) → Prop,K' a b → e_cap P t x o st K':=by
  unfold e_cap at h ⊢
  obtain ⟨h1,h⟩:=h
  repeat' first|exact h.elim|(split at h)|(obtain ⟨_,h⟩:=h)
  all_goals exact ⟨_,_,h,fun K' hk=>by simp_all⟩
theorem pin_app {t : TypeId} {s x : Operand} (h : e_app P t s x o st K) : ∃ a b,K a b ∧ ∀ K' : V → List (Nat × Ob) → Prop,K' a b → e_app P t s x o st K':=by
  unfold e_app at h ⊢
  obtain ⟨h1,h⟩:=h
  repeat' first|exact h.elim|(split at h)|(obtain ⟨_,h⟩:=h)
  all_goals exact ⟨_,_,h,fun K' hk=>by simp_all⟩
theorem pin_appZ {t ti : TypeId} {s x : Operand} (h : e_appZ P t ti s x o st K) : ∃ a b,K a b ∧ ∀ K' : V → List (Nat × Ob) → Prop,K' a b → e_appZ P t ti s x o st K':=by
  unfold e_appZ at h ⊢
  obtain ⟨h1,h⟩:=h
  repeat' first|exact h.elim|(split at h)|(obtain ⟨_,h⟩:=h)
  all_goals exact ⟨_,_,h,fun K' hk=>by simp_all⟩
theorem pin_copy {t : TypeId} {x y : Operand} (h : e_copy P t x y o st K) : ∃ a b,K a b ∧ ∀ K' : V → List (Nat × Ob) → Prop,K' a b → e_copy P t x y o st K':=by
  unfold e_copy at h ⊢
  obtain ⟨h1,h⟩:=h
  repeat' first|exact h.elim|(split at h)|(obtain ⟨_,h⟩:=h)
  all_goals exact ⟨_,_,h,fun K' hk=>by simp_all⟩
theorem pin_copyE {t : TypeId} {x y : Operand} (h : e_copyE P t x y o st K) : ∃ a b,K a b ∧ ∀ K' : V → List (Nat × Ob) → Prop,K' a b → e_copyE P t x y o st K':=by
  unfold e_copyE at h ⊢
  obtain ⟨h1,h⟩:=h
  repeat' first|exact h.elim|(split at h)|(obtain ⟨_,h⟩:=h)
  all_goals exact ⟨_,_,h,fun K' hk=>by simp_all⟩
theorem pin_cpy {t : TypeId} {x y : Operand} (h : e_cpy P t x y o st K) : ∃ a b,K a b ∧ ∀ K' : V → List (Nat × Ob) → Prop,K' a b → e_cpy P t x y o st K':=by
  unfold e_cpy at h ⊢
  split at h
  · exact pin_copyE h
  · exact pin_copy h
theorem pin_mkmap {t : TypeId} {x : Option Operand} (h : e_mkmap P t x o st K) : ∃ a b,K a b ∧ ∀ K' : V → List (Nat × Ob) → Prop,K' a b → e_mkmap P t x o st K':=by
  unfold e_mkmap at h ⊢
  obtain ⟨h1,h⟩:=h
  repeat' first|exact h.elim|(split at h)|(obtain ⟨_,h⟩:=h)
  all_goals exact ⟨_,_,h,fun K' hk=>by simp_all⟩
theorem pin_lookup {t : TypeId} {x i : Operand} {ok : Bool} (h : e_lookup P t x i ok o st K) : ∃ a b,K a b ∧ ∀ K' : V → List (Nat × Ob) → Prop,K' a b → e_lookup P t x i ok o st K':=by
  unfold e_lookup at h ⊢
  obtain ⟨h1,h⟩:=h
  repeat' first|exact h.elim|(split at h)|(obtain ⟨_,h⟩:=h)
  all_goals exact ⟨_,_,h,fun K' hk=>by simp_all⟩
theorem pin_mapup {t : TypeId} {m k x : Operand} (h : e_mapup P t m k x o st K) : ∃ a b,K a b ∧ ∀ K' : V → List (Nat × Ob) → Prop,K' a b → e_mapup P t m k x o st K':=by
  unfold e_mapup at h ⊢
  obtain ⟨h1,h⟩:=h
  repeat' first|exact h.elim|(split at h)|(obtain ⟨_,h⟩:=h)
  all_goals exact ⟨_,_,h,fun K' hk=>by simp_all⟩
theorem pin_s2a {t : TypeId} {x : Operand} (h : e_s2a P t x o st K) : ∃ a b,K a b ∧ ∀ K' : V → List (Nat × Ob) → Prop,K' a b → e_s2a P t x o st K':=by
  unfold e_s2a at h ⊢
  obtain ⟨h1,h⟩:=h
  repeat' first|exact h.elim|(split at h)|(obtain ⟨_,h⟩:=h)
  all_goals exact ⟨_,_,h,fun K' hk=>by simp_all⟩
theorem pin_mm {mx : Bool} {xs : Array Operand} (h : e_mm mx xs o st K) : ∃ a b,K a b ∧ ∀ K' : V → List (Nat × Ob) → Prop,K' a b → e_mm mx xs o st K':=by
  unfold e_mm at h ⊢
  obtain ⟨h1,h⟩:=h
  repeat' first|exact h.elim|(split at h)|(obtain ⟨_,h⟩:=h)
  all_goals exact ⟨_,_,h,fun K' hk=>by simp_all⟩
theorem pin_conv {s d : TypeId} {x : Operand} (h : e_conv P s d x o st K) : ∃ a b,K a b ∧ ∀ K' : V → List (Nat × Ob) → Prop,K' a b → e_conv P s d x o st K':=by
  unfold e_conv at h ⊢
  obtain ⟨h1,h⟩:=h
  repeat' first|exact h.elim|(split at h)|(obtain ⟨_,h⟩:=h)
  all_goals exact ⟨_,_,h,fun K' hk=>by simp_all⟩
theorem pin_str {s d : TypeId} {x : Operand} (h : e_str P s d x o st K) : ∃ a b,K a b ∧ ∀ K' : V → List (Nat × Ob) → Prop,K' a b → e_str P s d x o st K':=by
  unfold e_str at h ⊢
  obtain ⟨h1,h⟩:=h
  repeat' first|exact h.elim|(split at h)|(obtain ⟨_,h⟩:=h)
  all_goals exact ⟨_,_,h,fun K' hk=>by simp_all⟩
theorem pin_mark {t : TypeId} {x : Operand} (h : e_mark P t x o st K) : ∃ a b,K a b ∧ ∀ K' : V → List (Nat × Ob) → Prop,K' a b → e_mark P t x o st K':=by
  unfold e_mark at h ⊢
  obtain ⟨h1,h⟩:=h
  repeat' first|exact h.elim|(split at h)|(obtain ⟨_,h⟩:=h)
  all_goals exact ⟨_,_,h,fun K' hk=>by simp_all⟩
theorem pin_binW {Es : TypeId → Nat → Prop} {op : BinOp} {t : TypeId} {x y : V} {K : Value → Prop} (h : binW P Es op t x y K) : ∃ r,K r ∧ ∀ K' : Value → Prop,K' r → binW P Es op t x y K':=by
  unfold binW at h ⊢
  repeat' first|exact h.elim|(split at h)|(obtain ⟨_,h⟩:=h)
  all_goals exact ⟨_,h,fun K' hk=>by simp_all⟩
theorem pin_bin {Es : TypeId → Nat → Prop} {op : BinOp} {t : TypeId} {x y : Operand} (h : e_bin P Es op t x y o st K) : ∃ a b,K a b ∧ ∀ K' : V → List (Nat × Ob) → Prop,K' a b → e_bin P Es op t x y o st K':=by
  obtain ⟨h1,h⟩:=h
  obtain ⟨r,h2,h3⟩:=pin_binW h
  exact ⟨_,_,h2,fun K' hk=>⟨h1,h3 _ hk⟩⟩
theorem pin_call {Sp : FuncId → List D → Out → Prop} {f : FuncId} {xs : Array Operand} (h : e_call Sp f xs o st K) : ∃ a b,K a b ∧ ∀ K' : V → List (Nat × Ob) → Prop,K' a b → e_call Sp f xs o st K':=by
  unfold e_call at h ⊢
  obtain ⟨h1,h⟩:=h
  split at h
  · rename_i ds hds
    obtain ⟨out,h2,h3,h4,h5⟩:=h
    exact ⟨_,_,h5,fun K' hk=>⟨h1,out,h2,h3,h4,hk⟩⟩
  · exact h.elim
theorem pin_callF {Sp : FuncId → List D → Out → Prop} {f : FuncId} {xs : Array Operand} (h : e_callF Sp f xs o st K) : ∃ a b,K a b ∧ ∀ K' : V → List (Nat × Ob) → Prop,K' a b → e_callF Sp f xs o st K':=by
  unfold e_callF at h ⊢
  obtain ⟨h1,h⟩:=h
  split at h
  · rename_i ds hds
    obtain ⟨out,h2,h3,h4,h5⟩:=h
    exact ⟨_,_,h5,fun K' hk=>⟨h1,out,h2,h3,h4,hk⟩⟩
  · exact h.elim
theorem pin_callM {lc : Bool} {Sp : FuncId → List V → List (Nat × Ob) → Out → Prop} {ns : List Nat} {f : FuncId} {xs : Array Operand} (h : e_callM lc Sp ns f xs o st K) : ∃ a b,K a b ∧ ∀ K' : V → List (Nat × Ob) → Prop,K' a b → e_callM lc Sp ns f xs o st K':=by
  unfold e_callM at h ⊢
  obtain ⟨h1,h2,h3,h⟩:=h
  split at h
  · rename_i as has
    obtain ⟨out,h4,h5,h6⟩:=h
    exact ⟨_,_,h6,fun K' hk=>⟨h1,h2,h3,out,h4,h5,hk⟩⟩
  · exact h.elim
theorem pin_atom {k : Nat} {xs : Array Operand} (h : e_atom k xs o st K) : ∃ a b,K a b ∧ ∀ K' : V → List (Nat × Ob) → Prop,K' a b → e_atom k xs o st K':=by
  unfold e_atom at h ⊢
  obtain ⟨h1,h⟩:=h
  repeat' first|exact h.elim|(split at h)|(obtain ⟨_,h⟩:=h)
  all_goals exact ⟨_,_,h,fun K' hk=>by simp_all⟩
theorem pin_evk (h : evk E o st K) : ∃ a b,K a b ∧ ∀ K' : V → List (Nat × Ob) → Prop,K' a b → evk E o st K':=by
  unfold evk at h ⊢
  split at h
  · exact pin_move h
  · exact pin_move h
  · exact pin_pick h
  · exact pin_alloc h
  · exact pin_box h
  · exact pin_build h
  · exact pin_lit h
  · exact pin_load h
  · exact pin_store h
  · exact pin_nil h
  · exact pin_bin h
  · exact pin_un h
  · unfold e_cnv at h ⊢
    split at h
    · exact pin_conv h
    · split at h
      · exact pin_str h
      · obtain ⟨h1,h⟩:=h
        obtain ⟨a,b,h2,h3⟩:=pin_mark h
        exact ⟨a,b,h2,fun K' hk=>⟨h1,h3 K' hk⟩⟩
  · split at h
    · rename_i hc;simp only [hc,if_true];exact pin_makeC h
    · rename_i hc;simp only [hc,if_false];exact pin_make h
  · exact pin_cut h
  · exact pin_field h
  · exact pin_fld h
  · exact pin_index h
  · exact pin_extract h
  · exact pin_mkmap h
  · exact pin_lookup h
  · exact pin_mapup h
  · exact pin_s2a h
  · unfold evc at h ⊢
    split at h
    · split at h
      · exact pin_callM h
      · split at h
        · exact pin_atom h
        · split at h
          · rename_i hf;simp only [hf,if_true];exact pin_callF h
          · rename_i hf;simp only [hf,if_false];exact pin_call h
    · exact pin_len h
    · exact pin_cap h
    · split at h
      · rename_i e;simp only [if_pos e];exact pin_app h
      · rename_i e;simp only [if_neg e];exact pin_appZ h
    · exact pin_cpy h
    · exact pin_mm h
    · exact pin_mm h
    · exact h.elim
  · exact h.elim
theorem pin_ev1 {ops : Array Oper} (h : ev1 E ops o st K) : ∃ a b,K a b ∧ ∀ K' : V → List (Nat × Ob) → Prop,K' a b → ev1 E ops o st K':=by
  unfold ev1 at h ⊢
  split at h
  · exact pin_evk h
  · split at h
    · rename_i b _
      rename_i want _ _ _
      by_cases hb : b = want
      · obtain ⟨a,c,h2,h3⟩:=pin_evk (h.1 hb)
        refine ⟨a,c,h2,fun K' hk=>⟨fun _=>h3 K' hk,fun e=>?_⟩⟩
        rw [hb] at e;cases want <;> cases e
      · have hn : b = !want:=by cases b <;> cases want <;> simp_all
        obtain ⟨h2,h3⟩:=h.2 hn
        exact ⟨_,_,h3,fun K' hk=>⟨fun e=>absurd e hb,fun _=>⟨h2,hk⟩⟩⟩
    · exact ⟨_,_,h.2,fun K' hk=>⟨h.1,hk⟩⟩
    · exact h.elim
theorem gt_updIf (st : St) (c : Bool) (d : Option Tmp) (x : V) (u : List (Nat × Ob)) (t : Tmp) : gt (st.updIf c d x u).tm t = if c = true ∧ d = some t then x else gt st.tm t:=by
  cases c with
  | false=>rw [updIf_false];simp
  | true =>
    rw [updIf_true]
    cases d with
    | none=>simp [St.upd,St.put]
    | some k =>
      simp only [St.upd,St.put,gt,true_and,Option.some.injEq]
      by_cases h : t = k
      · rw [if_pos h,if_pos h.symm]
      · rw [if_neg h,if_neg (fun e=>h e.symm)]
theorem hp_updIf (st : St) (c : Bool) (d : Option Tmp) (x : V) (u : List (Nat × Ob)) : (st.updIf c d x u).hp = (if c = true then u else []) ++ st.hp:=by
  cases c with
  | false=>rw [updIf_false];simp
  | true=>rw [updIf_true];cases d <;> simp [St.upd,St.put]
theorem nt_updIf (st : St) (c : Bool) (d : Option Tmp) (x : V) (u : List (Nat × Ob)) : (st.updIf c d x u).nt = st.nt:=rfl
theorem Sg_ntq (f : Nat → Bool) : ∀ (os : List Oper) (ds : List (V × List (Nat × Ob))) (j : Nat) (s : St),(Sg f j os ds s).nt = s.nt
  | [],_,_,_=>by simp [Sg]
  | _ :: _,[],_,_=>by simp [Sg]
  | o :: os,(x,u) :: ds,j,s=>by rw [Sg,Sg_ntq f os ds];rfl
theorem Sg_gt {f g : Nat → Bool} {t : Tmp} : ∀ (os : List Oper) (ds : List (V × List (Nat × Ob))) (j : Nat) (s s' : St),(∀ k o,os[k]? = some o → o.dst = some t → f (j + k) = g (j + k)) → gt s.tm t = gt s'.tm t → gt (Sg f j os ds s).tm t = gt (Sg g j os ds s').tm t
  | [],_,_,_,_,_,h=>by simpa [Sg] using h
  | _ :: _,[],_,_,_,_,h=>by simpa [Sg] using h
  | o :: os,(x,u) :: ds,j,s,s',hf,h=>by
    rw [Sg,Sg]
    refine Sg_gt os ds (j + 1) _ _ (fun k o' ho hd=>?_) ?_
    · have:=hf (k + 1) o' (by simpa using ho) hd
      rwa [show j + (k + 1) = j + 1 + k by omega] at this
    · rw [gt_updIf,gt_updIf,h]
      by_cases hd : o.dst = some t
      · have:=hf 0 o rfl hd
        rw [Nat.add_zero] at this
        rw [this]
      · simp [hd]
theorem Sg_hp {f g : Nat → Bool} : ∀ (os : List Oper) (ds : List (V × List (Nat × Ob))) (j : Nat) (s s' : St),(∀ k x u,k < os.length → ds[k]? = some (x,u) → u ≠ [] → f (j + k) = g (j + k)) → s.hp = s'.hp → (Sg f j os ds s).hp = (Sg g j os ds s').hp
  | [],_,_,_,_,_,h=>by simpa [Sg] using h
  | _ :: _,[],_,_,_,_,h=>by simpa [Sg] using h
  | o :: os,(x,u) :: ds,j,s,s',hf,h=>by
    rw [Sg,Sg]
    refine Sg_hp os ds (j + 1) _ _ (fun k x' u' hk hd hu=>?_) ?_
    · have:=hf (k + 1) x' u' (by simp;omega) (by simpa using hd) hu
      rwa [show j + (k + 1) = j + 1 + k by omega] at this
    · rw [hp_updIf,hp_updIf,h]
      by_cases hu : u = []
      · subst hu;simp
      · have:=hf 0 x u (by simp) rfl hu
        rw [Nat.add_zero] at this
        rw [this]
theorem Sg_false : ∀ (os : List Oper) (ds : List (V × List (Nat × Ob))) (j : Nat) (s : St),Sg (fun _=>false) j os ds s = s
  | [],_,_,_=>by simp [Sg]
  | _ :: _,[],_,_=>by simp [Sg]
  | o :: os,(x,u) :: ds,j,s=>by rw [Sg,updIf_false,Sg_false os ds]
theorem Sg_app {f : Nat → Bool} : ∀ (os os' : List Oper) (ds ds' : List (V × List (Nat × Ob))) (j : Nat) (s : St),os.length = ds.length → Sg f j (os ++ os') (ds ++ ds') s = Sg f (j + os.length) os' ds' (Sg f j os ds s)
  | [],os',[],ds',j,s,_=>by simp [Sg]
  | [],_,_ :: _,_,_,_,h=>by simp at h
  | _ :: _,_,[],_,_,_,h=>by simp at h
  | o :: os,os',(x,u) :: ds,ds',j,s,h=>by
    rw [List.cons_append,List.cons_append,Sg,Sg,Sg_app os os' ds ds' (j + 1) _ (by simpa using h),List.length_cons,show j + 1 + os.length = j + (os.length + 1) by omega]
def guT (ops : Array Oper) (o : Oper) : List Tmp:=match o.guard with|some (j,_)=>(gvt ops j).toList|none=>[]
def tmO : Operand → List Tmp
  | .tmp t=>[t]
  | _=>[]
def redT (ops : Array Oper) (o : Oper) : List Tmp:=(rdO o.op).flatMap tmO ++ guT ops o
theorem cg_ev1 {ops : Array Oper} (ht : ∀ t ∈ redT ops o,gt s2.tm t = gt st.tm t) (hn : s2.nt = st.nt) (hh : hfO o.op = true ∨ s2.hp = st.hp) (h : ev1 E ops o st K) : ev1 E ops o s2 K:=by
  have hr : ∀ y ∈ rdO o.op,s2.ev y = st.ev y:=fun y hy=>by
    cases y with
    | tmp t=>exact ht t (List.mem_append.2 (.inl (List.mem_flatMap.2 ⟨_,hy,by simp [tmO]⟩)))
    | _=>rfl
  unfold ev1 at h ⊢
  split at h
  · exact cg_evk hr hn hh h
  · rename_i j want hg
    have hgv : gv ops s2 j = gv ops st j:=by
      unfold gv
      cases hq : ops[j]? with
      | none=>rfl
      | some q =>
        dsimp only
        cases hd : q.dst with
        | none=>rfl
        | some t =>
          dsimp only
          rw [hn,ht t (List.mem_append.2 (.inr (by simp [guT,hg,gvt,hq,hd])))]
    rw [hgv]
    split at h
    · exact ⟨fun e=>cg_evk hr hn hh (h.1 e),fun e=>by rw [hn];exact h.2 e⟩
    · rw [hn];exact h
    · exact h.elim
def ckJ (ts : List Tmp) (hf : Bool) (B : List Nat) (i : Nat) : Nat → List Oper → List Bool → Bool
  | j,o :: os,n :: ns=>(!((match o.dst with|some t=>ts.contains t|none=>false) || (n && !hf)) || decide (code1 B i j = some (decide (j < i)))) && ckJ ts hf B i (j + 1) os ns
  | _,_,_=>true
def ckI (B : List Nat) (ops : Array Oper) (ns : List Bool) : Nat → List Oper → Bool
  | i,o :: os=>ckJ (redT ops o) (hfO o.op) B i 0 ops.toList ns && ckI B ops ns (i + 1) os
  | _,[]=>true
theorem ckJ_at {ts : List Tmp} {hf : Bool} {B : List Nat} {i : Nat} : ∀ {os : List Oper} {ns : List Bool} {j : Nat},ckJ ts hf B i j os ns = true → ∀ (k : Nat) (o : Oper) (n : Bool),os[k]? = some o → ns[k]? = some n → ((∃ t ∈ ts,o.dst = some t) ∨ (n = true ∧ hf = false)) → code1 B i (j + k) = some (decide (j + k < i))
  | [],_,_,_,k,o,n,ho,_,_=>by simp at ho
  | _ :: _,[],_,_,k,o,n,_,hn,_=>by simp at hn
  | o' :: os,n' :: ns,j,h,k,o,n,ho,hn,hc=>by
    simp only [ckJ,Bool.and_eq_true,Bool.or_eq_true,Bool.not_eq_true',decide_eq_true_eq] at h
    cases k with
    | zero =>
      simp at ho hn
      subst ho hn
      rcases h.1 with h1|h1
      · exfalso
        simp only [Bool.or_eq_false_iff] at h1
        rcases hc with ⟨t,ht,hd⟩|⟨h2,h3⟩
        · rw [hd] at h1
          have:=h1.1
          simp at this
          exact this ht
        · rw [h2,h3] at h1
          have:=h1.2
          simp at this
      · exact h1
    | succ k =>
      have:=ckJ_at h.2 k o n (by simpa using ho) (by simpa using hn) hc
      rwa [show j + 1 + k = j + (k + 1) by omega] at this
theorem mk_code {B : List Nat} {i j : Nat} {b : Nat → Bool} {c : Bool} (h : code1 B i j = some c) : mk B i b j = c:=by
  unfold code1 at h
  unfold mk
  split
  · rw [if_pos ‹_›] at h;simpa using h
  · rw [if_neg ‹_›] at h
    split
    · rw [if_pos ‹_›] at h;simpa using h
    · rw [if_neg ‹_›] at h
      split
      · rw [if_pos ‹_›] at h;simpa using h
      · rw [if_neg ‹_›] at h;cases h
def pinC (E : Env) (ops : Array Oper) : List Oper → List (V × List (Nat × Ob)) → St → Prop
  | o :: os,(x,u) :: ds,st=>(∀ K' : V → List (Nat × Ob) → Prop,K' x u → ev1 E ops o st K') ∧ pinC E ops os ds (st.upd o.dst x u)
  | [],[],_=>True
  | _,_,_=>False
theorem sg_shift : ∀ (os : List Oper) (ds : List (V × List (Nat × Ob))) (j j' : Nat) (s : St),Sg (fun _=>true) j os ds s = Sg (fun _=>true) j' os ds s
  | [],_,_,_,_=>by simp [Sg]
  | _ :: _,[],_,_,_=>by simp [Sg]
  | o :: os,(x,u) :: ds,j,j',s=>by rw [Sg,Sg,sg_shift os ds (j + 1) (j' + 1)]
theorem awc_pin {ops : Array Oper} : ∀ (os : List Oper) {st : St} {acc : List (V × List (Nat × Ob))} {K : List (V × List (Nat × Ob)) → St → Prop},awc E ops os st acc K → ∃ δ,δ.length = os.length ∧ pinC E ops os δ st ∧ K (acc ++ δ) (Sg (fun _=>true) 0 os δ st)
  | [],st,acc,K,h=>⟨[],rfl,trivial,by simpa [Sg,awc] using h⟩
  | o :: os,st,acc,K,h=>by
    simp only [awc] at h
    obtain ⟨x,u,h1,h2⟩:=pin_ev1 h
    obtain ⟨δ,hl,hp,hk⟩:=awc_pin os h1
    refine ⟨(x,u) :: δ,by simp [hl],⟨h2,hp⟩,?_⟩
    rw [Sg,updIf_true]
    rw [List.append_assoc] at hk
    have e : Sg (fun _=>true) (0 + 1) os δ (st.upd o.dst x u) = Sg (fun _=>true) 0 os δ (st.upd o.dst x u):=sg_shift os δ _ _ _
    rw [e]
    exact hk
theorem awc_of {ops : Array Oper} : ∀ (os : List Oper) (δ : List (V × List (Nat × Ob))) {st : St} {acc : List (V × List (Nat × Ob))} {K : List (V × List (Nat × Ob)) → St → Prop},pinC E ops os δ st → K (acc ++ δ) (Sg (fun _=>true) 0 os δ st) → awc E ops os st acc K
  | [],[],st,acc,K,_,hk=>by simpa [Sg,awc] using hk
  | [],_ :: _,_,_,_,h,_=>h.elim
  | _ :: _,[],_,_,_,h,_=>h.elim
  | o :: os,(x,u) :: δ,st,acc,K,h,hk=>by
    simp only [awc]
    refine h.1 _ (awc_of os δ h.2 ?_)
    rw [Sg,updIf_true,sg_shift os δ _ 0 _] at hk
    rw [List.append_assoc]
    exact hk
def nsO (δ : List (V × List (Nat × Ob))) : List Bool:=δ.map fun p=>!p.2.isEmpty
theorem pinC_len {ops : Array Oper} : ∀ (os : List Oper) (ds : List (V × List (Nat × Ob))) {st : St},pinC E ops os ds st → os.length = ds.length
  | [],[],_,_=>rfl
  | [],_ :: _,_,h=>h.elim
  | _ :: _,[],_,h=>h.elim
  | o :: os,(x,u) :: ds,st,h=>by rw [List.length_cons,List.length_cons,pinC_len os ds h.2]
theorem each_fast {ops : Array Oper} {B : List Nat} {st : St} {δ : List (V × List (Nat × Ob))} : ∀ (suf : List Oper) (dsuf : List (V × List (Nat × Ob))) (pre : List Oper) (dpre : List (V × List (Nat × Ob))),ops.toList = pre ++ suf → δ = dpre ++ dsuf → pre.length = dpre.length →
    pinC E ops suf dsuf (Sg (fun _=>true) 0 pre dpre st) → ckI B ops (nsO δ) pre.length suf = true → each E ops B st δ pre.length suf dsuf
  | [],[],_,_,_,_,_,_,_=>trivial
  | [],_ :: _,_,_,_,_,_,h,_=>h.elim
  | _ :: _,[],_,_,_,_,_,h,_=>h.elim
  | o :: os,(x,u) :: ds,pre,dpre,he,hd,hl,hp,hc=>by
    simp only [ckI,Bool.and_eq_true] at hc
    simp only [each]
    have hsi : Sg (fun j=>decide (j < pre.length)) 0 ops.toList δ st = Sg (fun _=>true) 0 pre dpre st:=by
      rw [he,hd,Sg_app pre _ dpre _ 0 st hl,Nat.zero_add]
      rw [Sg_congr (m:=fun j=>decide (j < pre.length)) (m':=fun _=>false) _ _ _ _ (fun j h1 h2=>by simp;omega),Sg_false]
      exact Sg_congr _ _ _ _ (fun j h1 h2=>by simp;omega)
    refine ⟨fun b=>?_,?_⟩
    · refine cg_ev1 (st:=Sg (fun _=>true) 0 pre dpre st) (fun t ht=>?_) ?_ ?_ (hp.1 _ rfl)
      · rw [← hsi]
        refine Sg_gt _ _ _ _ _ (fun k o' ho hdt=>?_) rfl
        by_cases hk : k < δ.length
        · have:=ckJ_at hc.1 k o' (!(δ[k]).2.isEmpty) ho (by simp [nsO,hk]) (.inl ⟨t,ht,hdt⟩)
          rw [Nat.zero_add] at this ⊢
          exact mk_code this
        · exfalso
          have h1 : k < ops.toList.length:=(List.getElem?_eq_some_iff.1 ho).1
          have h2 : (o :: os).length = ((x,u) :: ds).length:=by
            have:=pinC_len _ _ hp
            simpa using this
          rw [he,List.length_append] at h1
          rw [hd,List.length_append] at hk
          omega
      · rw [Sg_ntq,Sg_ntq]
      · by_cases hf : hfO o.op = true
        · exact .inl hf
        · refine .inr ?_
          rw [← hsi]
          refine Sg_hp _ _ _ _ _ (fun k x' u' hk hdk hu=>?_) rfl
          have ho : ops.toList[k]? = some ops.toList[k]:=List.getElem?_eq_getElem hk
          have hn : (nsO δ)[k]? = some true:=by
            rw [nsO,List.getElem?_map,hdk]
            simp [hu]
          have:=ckJ_at hc.1 k _ true ho hn (.inr ⟨rfl,by simpa using hf⟩)
          rw [Nat.zero_add] at this ⊢
          exact mk_code this
    · have:=each_fast (B:=B) (st:=st) (δ:=δ) os ds (pre ++ [o]) (dpre ++ [(x,u)]) (by rw [he];simp) (by rw [hd];simp) (by simp [hl]) (by
        rw [Sg_app pre _ dpre _ 0 st hl,Sg,updIf_true]
        simpa [Sg] using hp.2) (by simpa using hc.2)
      simpa using this
theorem AW.regq (hE : E.Ok) (hm : E.P.follows .mixedOrders = true) {id : Nat} {ops : Array Oper} {st : St} {Q : Exit → St → Prop} (B : List Nat) (hB : bitsOk ops B = true) (l : List Nat)
    (h : Awc E ops ops.toList st [] fun δ s=>ckI B ops (nsO δ) 0 ops.toList = true ∧ pairsB B 0 ops.toList (δ.map idsO) = true ∧ Q .normal (s.keep l)) : AW E.P (.region id ops true) st Q:=by
  obtain ⟨δ,hl,hp,hc,hq,hQ⟩:=awc_pin _ h.h
  refine AW.draw hE hm B hB l (awc_of _ δ hp ⟨?_,pairs_of hq,hQ⟩)
  exact each_fast ops.toList δ [] [] rfl rfl rfl hp hc
end
end Go.Proofs.Ytleahjfgedfgmaa.Am
end
section
namespace Go.Proofs.Ytleahjfgedfgmaa.Am
open Go Go.RowKit Go.Proofs
structure midQ (st' : St) (e : Exit) (s : St) : Prop where
  h : e = .normal ∧ ∃ ρ,Wk ρ s st'
theorem AW.mids {P : Program} {x y : Code} {st : St} {Q : Exit → St → Prop} (st' : St) (h1 : AW P x st (midQ st')) (h2 : AW P y st' Q) : AW P (.seq x y) st Q :=
  AW.mid st' (h1.mono fun _ _ h=>h.h) h2
structure midxQ {ι : Type} (S : ι → St) (G : ι → Prop) (e : Exit) (s : St) : Prop where
  h : e = .normal ∧ ∃ i,G i ∧ ∃ ρ,Wk ρ s (S i)
theorem AW.midxs {P : Program} {x y : Code} {st : St} {Q : Exit → St → Prop} {ι : Type} (S : ι → St) (G : ι → Prop) (h1 : AW P x st (midxQ S G)) (h2 : ∀ i,G i → AW P y (S i) Q) : AW P (.seq x y) st Q :=
  AW.midx S G (h1.mono fun _ _ h=>h.h) h2
structure midN (st' : St) (s : St) : Prop where
  h : ∃ ρ,Wk ρ s st'
structure midxN {ι : Type} (S : ι → St) (G : ι → Prop) (s : St) : Prop where
  h : ∃ i,G i ∧ ∃ ρ,Wk ρ s (S i)
section
variable {P : Program} {x x1 x2 x3 x4 x5 x6 x7 x8 x9 y : Code} {st : St} {Q : Exit → St → Prop}
theorem thenA.mono {n n' : St → Prop} (hn : ∀ s,n s → n' s) (e : Exit) (s : St) (h : thenA n Q e s) : thenA n' Q e s:=by
  refine ⟨?_⟩
  have:=h.h
  cases e with
  | normal=>exact hn s this
  | _=>exact this
theorem midN.go {st' : St} (h2 : AW P y st' Q) (s : St) (h : midN st' s) : AW P y s Q:=by
  obtain ⟨ρ,hw⟩:=h.h
  exact ⟨fun w0 oa a w hs=>h2.h w0 oa a w (hw.sr hs)⟩
theorem midxN.go {ι : Type} {S : ι → St} {G : ι → Prop} (h2 : ∀ i,G i → AW P y (S i) Q) (s : St) (h : midxN S G s) : AW P y s Q:=by
  obtain ⟨i,hg,ρ,hw⟩:=h.h
  exact ⟨fun w0 oa a w hs=>(h2 i hg).h w0 oa a w (hw.sr hs)⟩
theorem AW.sq {n : St → Prop} (hn : ∀ s,n s → AW P y s Q) (h : AW P x st (thenA n Q)) : AW P (.seq x y) st Q:=AW.seq (h.mono (thenA.mono hn))
theorem AW.m1 (st' : St) (h1 : AW P x1 st (thenA (midN st') Q)) (h2 : AW P y st' Q) : AW P (.seq x1 y) st Q:=AW.sq (midN.go h2) h1
theorem AW.m2 (st' : St) (h1 : AW P x1 st (thenA (fun s=>AW P x2 s (thenA (midN st') Q)) Q)) (h2 : AW P y st' Q) : AW P (.seq x1 (.seq x2 y)) st Q:=AW.sq (fun _ h=>AW.sq (midN.go h2) h) h1
theorem AW.m3 (st' : St) (h1 : AW P x1 st (thenA (fun s=>AW P x2 s (thenA (fun s=>AW P x3 s (thenA (midN st') Q)) Q)) Q)) (h2 : AW P y st' Q) : AW P (.seq x1 (.seq x2 (.seq x3 y))) st Q:=AW.sq (fun _ h=>AW.sq (fun _ h=>AW.sq (midN.go h2) h) h) h1
theorem AW.m4 (st' : St) (h1 : AW P x1 st (thenA (fun s=>AW P x2 s (thenA (fun s=>AW P x3 s (thenA (fun s=>AW P x4 s (thenA (midN st') Q)) Q)) Q)) Q)) (h2 : AW P y st' Q) : AW P (.seq x1 (.seq x2 (.seq x3 (.seq x4 y)))) st Q:=AW.sq (fun _ h=>AW.sq (fun _ h=>AW.sq (fun _ h=>AW.sq (midN.go h2) h) h) h) h1
theorem AW.m5 (st' : St) (h1 : AW P x1 st (thenA (fun s=>AW P x2 s (thenA (fun s=>AW P x3 s (thenA (fun s=>AW P x4 s (thenA (fun s=>AW P x5 s (thenA (midN st') Q)) Q)) Q)) Q)) Q)) (h2 : AW P y st' Q) : AW P (.seq x1 (.seq x2 (.seq x3 (.seq x4 (.seq x5 y))))) st Q:=AW.sq (fun _ h=>AW.sq (fun _ h=>AW.sq (fun _ h=>AW.sq (fun _ h=>AW.sq (midN.go h2) h) h) h) h) h1
theorem AW.m6 (st' : St) (h1 : AW P x1 st (thenA (fun s=>AW P x2 s (thenA (fun s=>AW P x3 s (thenA (fun s=>AW P x4 s (thenA (fun s=>AW P x5 s (thenA (fun s=>AW P x6 s (thenA (midN st') Q)) Q)) Q)) Q)) Q)) Q)) (h2 : AW P y st' Q) : AW P (.seq x1 (.seq x2 (.seq x3 (.seq x4 (.seq x5 (.seq x6 y)))))) st Q:=AW.sq (fun _ h=>AW.sq (fun _ h=>AW.sq (fun _ h=>AW.sq (fun _ h=>AW.sq (fun _ h=>AW.sq (midN.go h2) h) h) h) h) h) h1
theorem AW.m7 (st' : St) (h1 : AW P x1 st (thenA (fun s=>AW P x2 s (thenA (fun s=>AW P x3 s (thenA (fun s=>AW P x4 s (thenA (fun s=>AW P x5 s (thenA (fun s=>AW P x6 s (thenA (fun s=>AW P x7 s (thenA (midN st') Q)) Q)) Q)) Q)) Q)) Q)) Q)) (h2 : AW P y st' Q) : AW P (.seq x1 (.seq x2 (.seq x3 (.seq x4 (.seq x5 (.seq x6 (.seq x7 y))))))) st Q:=AW.sq (fun _ h=>AW.sq (fun _ h=>AW.sq (fun _ h=>AW.sq (fun _ h=>AW.sq (fun _ h=>AW.sq (fun _ h=>AW.sq (midN.go h2) h) h) h) h) h) h) h1
theorem AW.m8 (st' : St) (h1 : AW P x1 st (thenA (fun s=>AW P x2 s (thenA (fun s=>AW P x3 s (thenA (fun s=>AW P x4 s (thenA (fun s=>AW P x5 s (thenA (fun s=>AW P x6 s (thenA (fun s=>AW P x7 s (thenA (fun s=>AW P x8 s (thenA (midN st') Q)) Q)) Q)) Q)) Q)) Q)) Q)) Q)) (h2 : AW P y st' Q) : AW P (.seq x1 (.seq x2 (.seq x3 (.seq x4 (.seq x5 (.seq x6 (.seq x7 (.seq x8 y)))))))) st Q:=AW.sq (fun _ h=>AW.sq (fun _ h=>AW.sq (fun _ h=>AW.sq (fun _ h=>AW.sq (fun _ h=>AW.sq (fun _ h=>AW.sq (fun _ h=>AW.sq (midN.go h2) h) h) h) h) h) h) h) h1
theorem AW.m9 (st' : St) (h1 : AW P x1 st (thenA (fun s=>AW P x2 s (thenA (fun s=>AW P x3 s (thenA (fun s=>AW P x4 s (thenA (fun s=>AW P x5 s (thenA (fun s=>AW P x6 s (thenA (fun s=>AW P x7 s (thenA (fun s=>AW P x8 s (thenA (fun s=>AW P x9 s (thenA (midN st') Q)) Q)) Q)) Q)) Q)) Q)) Q)) Q)) Q)) (h2 : AW P y st' Q) : AW P (.seq x1 (.seq x2 (.seq x3 (.seq x4 (.seq x5 (.seq x6 (.seq x7 (.seq x8 (.seq x9 y))))))))) st Q:=AW.sq (fun _ h=>AW.sq (fun _ h=>AW.sq (fun _ h=>AW.sq (fun _ h=>AW.sq (fun _ h=>AW.sq (fun _ h=>AW.sq (fun _ h=>AW.sq (fun _ h=>AW.sq (midN.go h2) h) h) h) h) h) h) h) h) h1
theorem AW.mx1 {ι : Type} (S : ι → St) (G : ι → Prop) (h1 : AW P x1 st (thenA (midxN S G) Q)) (h2 : ∀ i,G i → AW P y (S i) Q) : AW P (.seq x1 y) st Q:=AW.sq (midxN.go h2) h1
theorem AW.mx2 {ι : Type} (S : ι → St) (G : ι → Prop) (h1 : AW P x1 st (thenA (fun s=>AW P x2 s (thenA (midxN S G) Q)) Q)) (h2 : ∀ i,G i → AW P y (S i) Q) : AW P (.seq x1 (.seq x2 y)) st Q:=AW.sq (fun _ h=>AW.sq (midxN.go h2) h) h1
theorem AW.mx3 {ι : Type} (S : ι → St) (G : ι → Prop) (h1 : AW P x1 st (thenA (fun s=>AW P x2 s (thenA (fun s=>AW P x3 s (thenA (midxN S G) Q)) Q)) Q)) (h2 : ∀ i,G i → AW P y (S i) Q) : AW P (.seq x1 (.seq x2 (.seq x3 y))) st Q:=AW.sq (fun _ h=>AW.sq (fun _ h=>AW.sq (midxN.go h2) h) h) h1
theorem AW.mx4 {ι : Type} (S : ι → St) (G : ι → Prop) (h1 : AW P x1 st (thenA (fun s=>AW P x2 s (thenA (fun s=>AW P x3 s (thenA (fun s=>AW P x4 s (thenA (midxN S G) Q)) Q)) Q)) Q)) (h2 : ∀ i,G i → AW P y (S i) Q) : AW P (.seq x1 (.seq x2 (.seq x3 (.seq x4 y)))) st Q:=AW.sq (fun _ h=>AW.sq (fun _ h=>AW.sq (fun _ h=>AW.sq (midxN.go h2) h) h) h) h1
theorem AW.mx5 {ι : Type} (S : ι → St) (G : ι → Prop) (h1 : AW P x1 st (thenA (fun s=>AW P x2 s (thenA (fun s=>AW P x3 s (thenA (fun s=>AW P x4 s (thenA (fun s=>AW P x5 s (thenA (midxN S G) Q)) Q)) Q)) Q)) Q)) (h2 : ∀ i,G i → AW P y (S i) Q) : AW P (.seq x1 (.seq x2 (.seq x3 (.seq x4 (.seq x5 y))))) st Q:=AW.sq (fun _ h=>AW.sq (fun _ h=>AW.sq (fun _ h=>AW.sq (fun _ h=>AW.sq (midxN.go h2) h) h) h) h) h1
theorem AW.mx6 {ι : Type} (S : ι → St) (G : ι → Prop) (h1 : AW P x1 st (thenA (fun s=>AW P x2 s (thenA (fun s=>AW P x3 s (thenA (fun s=>AW P x4 s (thenA (fun s=>AW P x5 s (thenA (fun s=>AW P x6 s (thenA (midxN S G) Q)) Q)) Q)) Q)) Q)) Q)) (h2 : ∀ i,G i → AW P y (S i) Q) : AW P (.seq x1 (.seq x2 (.seq x3 (.seq x4 (.seq x5 (.seq x6 y)))))) st Q:=AW.sq (fun _ h=>AW.sq (fun _ h=>AW.sq (fun _ h=>AW.sq (fun _ h=>AW.sq (fun _ h=>AW.sq (midxN.go h2) h) h) h) h) h) h1
theorem AW.mx7 {ι : Type} (S : ι → St) (G : ι → Prop) (h1 : AW P x1 st (thenA (fun s=>AW P x2 s (thenA (fun s=>AW P x3 s (thenA (fun s=>AW P x4 s (thenA (fun s=>AW P x5 s (thenA (fun s=>AW P x6 s (thenA (fun s=>AW P x7 s (thenA (midxN S G) Q)) Q)) Q)) Q)) Q)) Q)) Q)) (h2 : ∀ i,G i → AW P y (S i) Q) : AW P (.seq x1 (.seq x2 (.seq x3 (.seq x4 (.seq x5 (.seq x6 (.seq x7 y))))))) st Q:=AW.sq (fun _ h=>AW.sq (fun _ h=>AW.sq (fun _ h=>AW.sq (fun _ h=>AW.sq (fun _ h=>AW.sq (fun _ h=>AW.sq (midxN.go h2) h) h) h) h) h) h) h1
theorem AW.mx8 {ι : Type} (S : ι → St) (G : ι → Prop) (h1 : AW P x1 st (thenA (fun s=>AW P x2 s (thenA (fun s=>AW P x3 s (thenA (fun s=>AW P x4 s (thenA (fun s=>AW P x5 s (thenA (fun s=>AW P x6 s (thenA (fun s=>AW P x7 s (thenA (fun s=>AW P x8 s (thenA (midxN S G) Q)) Q)) Q)) Q)) Q)) Q)) Q)) Q)) (h2 : ∀ i,G i → AW P y (S i) Q) : AW P (.seq x1 (.seq x2 (.seq x3 (.seq x4 (.seq x5 (.seq x6 (.seq x7 (.seq x8 y)))))))) st Q:=AW.sq (fun _ h=>AW.sq (fun _ h=>AW.sq (fun _ h=>AW.sq (fun _ h=>AW.sq (fun _ h=>AW.sq (fun _ h=>AW.sq (fun _ h=>AW.sq (midxN.go h2) h) h) h) h) h) h) h) h1
theorem AW.mx9 {ι : Type} (S : ι → St) (G : ι → Prop) (h1 : AW P x1 st (thenA (fun s=>AW P x2 s (thenA (fun s=>AW P x3 s (thenA (fun s=>AW P x4 s (thenA (fun s=>AW P x5 s (thenA (fun s=>AW P x6 s (thenA (fun s=>AW P x7 s (thenA (fun s=>AW P x8 s (thenA (fun s=>AW P x9 s (thenA (midxN S G) Q)) Q)) Q)) Q)) Q)) Q)) Q)) Q)) Q)) (h2 : ∀ i,G i → AW P y (S i) Q) : AW P (.seq x1 (.seq x2 (.seq x3 (.seq x4 (.seq x5 (.seq x6 (.seq x7 (.seq x8 (.seq x9 y))))))))) st Q:=AW.sq (fun _ h=>AW.sq (fun _ h=>AW.sq (fun _ h=>AW.sq (fun _ h=>AW.sq (fun _ h=>AW.sq (fun _ h=>AW.sq (fun _ h=>AW.sq (fun _ h=>AW.sq (midxN.go h2) h) h) h) h) h) h) h) h) h1
end
end Go.Proofs.Ytleahjfgedfgmaa.Am
end
