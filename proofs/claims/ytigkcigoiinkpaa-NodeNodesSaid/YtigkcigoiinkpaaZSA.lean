import Derived.Test.YtigkcigoiinkpaaZCrc
import Derived.Test.YtigkcigoiinkpaaZFA
import Derived.Test.YtigkcigoiinkpaaZHA
section
set_option linter.unusedVariables false
set_option linter.unusedSimpArgs false
namespace Go.Proofs.Ytigkcigoiinkpaa.Am
open Go Go.RowKit Go.Proofs Go.Proofs.YtigkcigoiinkpaaW.PrintWords Go.Proofs.YtigkcigoiinkpaaW.PrintLast Go.Proofs.YtigkcigoiinkpaaW.PrintMore
theorem kd_of_rd {w : World} {ok : Nat → Prop} {l : List Int} {y : Value} (h : Rd w ok (.list (l.map mB)) y) (hl : l.length ≤ 9223372036854775807) : ∃ A c,y = .slice A l.length c ∧ l.length ≤ c ∧ Kd.C (Kd.int .u8) w A l.length l:=by
  generalize hd : D.list (l.map mB) = d at h
  cases h with
  | nil A c =>
    simp only [D.list.injEq,List.map_eq_nil_iff] at hd
    subst hd
    exact ⟨A,c,rfl,Nat.zero_le _,rfl,hl,fun h=>absurd h (by simp)⟩
  | list l' sz b o c vals hc hok hsz hdd hv h1 hh =>
    simp only [D.list.injEq] at hd
    subst hd
    simp only [List.length_map] at hc hv h1
    refine ⟨some ⟨b,o,none⟩,c,by simp,hc,rfl,hl,fun h0=>⟨⟨b,o,none⟩,rfl,fun j p hp=>⟨[.int .u8 p],rfl,rfl,fun i u hu=>?_⟩⟩⟩
    have hjl : j < l.length:=(List.getElem?_eq_some_iff.1 hp).1
    obtain rfl : sz = 1:=by
      have:=hdd (mB l[j]) (List.mem_map_of_mem (List.getElem_mem _))
      simpa [mB,D.cells] using this.symm
    have e1:=hh j 0 (mB p) (mB p) (by simp [hp]) rfl
    rw [Nat.mul_one,Nat.add_zero] at e1
    have e2:=hv j (by omega)
    generalize vals j = q at e1 e2
    cases i with
    | zero =>
      simp only [List.getElem?_cons_zero,Option.some.injEq] at hu
      subst hu
      cases e1
      show w.cell? ((⟨b,o,none⟩ : Addr).add (j * 1 + 0)) = _
      rw [Addr.add_lit,Nat.mul_one,Nat.add_zero]
      exact e2
    | succ i=>simp at hu
  | _=>cases hd
theorem good_bytes {P : Program} {f : FuncId} {e8 : TypeId} {Sp0 : List D → List Int → Prop}
    (h : ∀ ds r,Sp0 ds r → ∀ (oa : Nat → Prop) (args : Array Value) (w : World),args.size = ds.length → (∀ (i : Nat) (d : D) (y : Value),ds[i]? = some d → args[i]? = some y → Rd w (fun b=>oa b ∧ b < w.heap.size) d y) →
      Calls P f args w fun e w'=>∃ v,e = .returned v ∧ w'.ownsRow w.heap.size e8 1 v r.length (r.map (Value.int .u8)) ∧ Below w.heap.size w w') :
    Good P f (fun ds out=>∃ r,Sp0 ds r ∧ out = ⟨.sl 0 1 0 r.length true,[(0,.row e8 1 (r.map mB))]⟩):=by
  rintro ds out ⟨r,hsp,rfl⟩ oa args w hsz hrd
  refine (h ds r hsp oa args w hsz hrd).mono fun e w' ⟨v,he,hown,hb⟩=>⟨v,he,?_⟩
  have hs : SRp w oa (fun _=>none) ⟨[],[],0⟩ { tmps:=#[],defers:=[] } w :=
    ⟨⟨Below.refl _ _,fun id o ho=>by simp [go] at ho,fun _ _=>rfl,fun id id' o o' v v' ho=>by simp [go] at ho⟩,rfl,rfl,fun k=>.junk _⟩
  obtain ⟨φ',hs',hv⟩:=hs.newrow 0 rfl e8 1 (r.map mB) v (r.map (Value.int .u8)) Nat.one_pos hb (by rw [List.length_map];exact hown) ⟨by simp,fun u hu=>by obtain ⟨n,_,rfl⟩:=List.mem_map.1 hu;rfl,fun d hd=>by obtain ⟨n,_,rfl⟩:=List.mem_map.1 hd;rfl,fun i j d x u hd hx hu=>by
    rw [List.getElem?_map] at hd
    obtain ⟨n,hn,rfl⟩:=Option.map_eq_some_iff.1 hd
    cases j with
    | zero =>
      cases hx
      rw [Nat.mul_one,Nat.add_zero,List.getElem?_map,hn] at hu
      cases hu
      exact .v _
    | succ j=>cases hx⟩
  rw [List.length_map] at hv
  exact ⟨φ',hs'.hr,hv⟩
theorem own_of_R {w' : World} {base e : Nat} {v : Value} {r : List Int} (h : Kd.R (Kd.int .u8) e w' base (fun _=>True) v r) : w'.ownsRow base e 1 v r.length (r.map (Value.int .u8)):=by
  obtain ⟨_,inner,ho,hl,hr⟩:=h
  have hi : inner = r.map (Value.int .u8):=by
    apply List.ext_getElem?
    intro j
    by_cases hj : j < r.length
    · have e1 : (inner.drop (j * 1)).take 1 = [.int .u8 r[j]]:=hr j r[j] (List.getElem?_eq_getElem hj)
      rw [Nat.mul_one] at e1
      have e2 : inner[j]? = ((inner.drop j).take 1)[0]?:=by simp
      rw [e2,e1]
      simp [hj]
    · have hl' : inner.length = r.length:=by have:=hl;simpa [Kd.int,Kd.scalar] using this
      rw [List.getElem?_eq_none (by omega),List.getElem?_eq_none (by simp;omega)]
  rw [← hi]
  exact ho
open Go.Proofs.Ytigkcigoiinkpaa.Crc Go.Proofs.Ytigkcigoiinkpaa.Mth Go.Proofs.Ytigkcigoiinkpaa.QC
def sumL (l : List Int) : List Int:=QC.sumB l
def Sp_sum0 (ds : List D) (out : Out) : Prop:=∃ r,(∃ l : List Int,ds = [.list (l.map mB)] ∧ l.length ≤ 9223372036854775807 ∧ r = sumL l) ∧ out = ⟨.sl 0 1 0 r.length true,[(0,.row 5 1 (r.map mB))]⟩
theorem good_sum0 : Good Try.prog 82 Sp_sum0:=by
  refine good_bytes fun ds r hs oa args w hsz hrd=>?_
  obtain ⟨l,rfl,hl,rfl⟩:=hs
  obtain ⟨y,rfl⟩ : ∃ y,args = #[y]:=by
    obtain ⟨ys⟩:=args
    match ys,hsz with
    | [y],_=>exact ⟨y,rfl⟩
  obtain ⟨A,c,rfl,hc,hk⟩:=kd_of_rd (hrd 0 _ y rfl rfl) hl
  exact (QC.sealed_sum.calls A c l (QC.sumB l) w hk hc rfl).mono fun e w' ⟨v,h1,h2,h3⟩=>⟨v,h1,own_of_R h2,h3⟩
def Sp_sealed_sum (ds : List D) (out : Out) : Prop:=∃ l : List Int,ds = [.list (l.map mB)] ∧ l.length ≤ 9223372036854775807 ∧ out = ⟨.sl 0 1 0 4 true,[(0,.row 5 1 ((sumL l).map mB))]⟩
theorem good_sealed_sum : Good Try.prog 82 Sp_sealed_sum:=fun ds out ⟨l,h1,h2,h3⟩=>good_sum0 ds out ⟨sumL l,⟨l,h1,h2,rfl⟩,h3⟩
theorem ent_sealed_sum : Ent Try.prog 82:=⟨_,Try.func82,rfl,by decide⟩
end Go.Proofs.Ytigkcigoiinkpaa.Am
end
section
set_option linter.unusedVariables false
set_option linter.unusedSimpArgs false
set_option maxRecDepth 10000
set_option maxHeartbeats 0
namespace Go.Proofs.Ytigkcigoiinkpaa.Am
open Go Go.RowKit Go.Proofs
theorem sumL_byt (l : List Int) : Byt (sumL l):=fun x h=>QC.sumB_byt l x h
theorem sumL_len (l : List Int) : (sumL l).length = 4:=rfl
def padL (l : List Int) : List Int:=l.take (min l.length 124) ++ (List.replicate 124 (0 : Int)).drop (min l.length 124)
theorem padL_len (l : List Int) : (padL l).length = 124:=by
  unfold padL
  rw [List.length_append,List.length_take,List.length_drop,List.length_replicate]
  omega
theorem padL_byt {l : List Int} (h : Byt l) : Byt (padL l):=byt_append (byt_take h _) (byt_drop (byt_replicate _) _)
def sealL (l : List Int) : List Int:=padL l ++ sumL (padL l)
theorem sealL_len (l : List Int) : (sealL l).length = 128:=by unfold sealL;rw [List.length_append,padL_len,sumL_len]
theorem sealL_byt {l : List Int} (h : Byt l) : Byt (sealL l):=byt_append (padL_byt h) (sumL_byt _)
noncomputable def Z1 : Env:=⟨Try.prog,fun f ds out=>(f = 82 ∧ Sp_sealed_sum ds out),Es,fun _=>false⟩
theorem Z1_sp : ∀ f ds out,Z1.Sp f ds out → Ent Z1.P f ∧ Good Z1.P f (fun a b=>a = ds ∧ b = out):=by
  rintro f ds out ⟨rfl,h⟩
  exact ⟨ent_sealed_sum,good_sealed_sum.one h⟩
theorem Z1_ok : Z1.Ok:=⟨Z1_sp,Es_ok⟩
theorem pad_eq (l : List Int) : (l.map mB).take (min l.length 124) ++ (List.replicate 124 (D.v (.int .u8 0))).drop (min l.length 124) = (padL l).map mB:=by
  rw [padL,List.map_append,List.map_take,List.map_drop,List.map_replicate];rfl
def Sp_sealed_Seal (ds : List D) (out : Out) : Prop:=∃ l : List Int,ds = [.list (l.map mB)] ∧ l.length ≤ 9223372036854775807 ∧ out = ⟨.sl 0 1 0 128 true,[(0,.row 5 1 ((sealL l).map mB))]⟩
theorem good_sealed_Seal : Good Try.prog 72 Sp_sealed_Seal:=by
  refine good_body (E:=Z1) (nt:=12) (rs:=#[.tmp 2]) Try.func72 rfl rfl rfl ?_
  rintro ds out ⟨l,rfl,hl,rfl⟩
  refine ⟨by simp,?_⟩
  have h1:=padL_len l
  have hpe:=pad_eq l
  have hm1 : ((l.map mB).take (min l.length 124)).length = min l.length 124:=by rw [List.length_take,List.length_map];omega
  have htp : ((padL l).map mB).take 124 = (padL l).map mB:=List.take_of_length_le (by simp [h1])
  have hts : ((sumL (padL l)).map mB).take 4 = (sumL (padL l)).map mB:=List.take_of_length_le (by simp [sumL_len])
  have hsl:=sumL_len (padL l)
  repeat' first
 | refine AW.seq ?_
 | refine AW.block ?_
 | refine AW.regl Z1_ok [0,2,3] ?_
 | refine then_n ?_
 | refine then_r ?_
 | refine then_x ?_
 | refine block_x ?_
 | refine block_o (by decide) ?_
 | refine block_n ?_
 | refine block_r ?_
 | refine AW.skip ?_
 | refine AW.ret ?_
 | refine AW.exit ?_
 | refine AW.cond rfl ?_ ?_
 | refine awl_none rfl ?_
 | refine awl_nil2 ?_
 | (refine fun (hc : _ = _)=>?_;first|cases hc|((try rw [hc]);(try simp only [stH] at hc);(try (exfalso;omega)));(try (show Awl _ _ _ _ _;simp only [stU])))
 | ((first|refine fun (K : V → List _ → _) hK=>?_|refine fun (_ : V → V)=>?_);simp (disch:=omega) only [go_sem,Int.reduceEq,↓reduceIte,reduceCtorEq,Nat.reduceEqDiff,Nat.reduceLT,Nat.reduceLeDiff,Nat.reduceAdd,Nat.reduceSub,Nat.reduceMul,Int.reduceToNat,Int.reduceLE,Int.reduceLT,Z1,Sp_sealed_sum,List.length_replicate,all_B,hm1,hpe,htp,hts,h1,hsl,mB_inj];(try (revert hK;intro hK;(repeat' first|(refine And.intro ?_ ?_)|(intro hc;first|cases hc|((try rw [hc]);(try simp only [stH] at hc);(try (exfalso;omega)))));all_goals first|(refine hK _ _ ?_;clear hK K;simp only [stU])|exact hK|omega)))
  (refine Ends.of (nm [(0,11)]) (by first|exact .inl rfl|exact .inr rfl) ?_;simp (disch:=omega) only [go_sem,Int.reduceEq,↓reduceIte,reduceCtorEq,Nat.reduceEqDiff,Nat.reduceLT,Nat.reduceLeDiff,Nat.reduceAdd,Nat.reduceSub,Nat.reduceMul,Int.reduceToNat,Int.reduceLE,Int.reduceLT,Z1,Sp_sealed_sum,sealL,List.map_append])
theorem ent_sealed_Seal : Ent Try.prog 72:=⟨_,Try.func72,rfl,by decide⟩
noncomputable def Z2 : Env:=⟨Try.prog,fun f ds out=>(f = 82 ∧ Sp_sealed_sum ds out) ∨ (f = 68 ∧ Sp_bytes_Equal ds out),Es,fun _=>false⟩
theorem Z2_sp : ∀ f ds out,Z2.Sp f ds out → Ent Z2.P f ∧ Good Z2.P f (fun a b=>a = ds ∧ b = out):=by
  rintro f ds out (⟨rfl,h⟩|⟨rfl,h⟩)
  · exact ⟨ent_sealed_sum,good_sealed_sum.one h⟩
  · exact ⟨ent_bytes_Equal,good_bytes_Equal.one h⟩
theorem Z2_ok : Z2.Ok:=⟨Z2_sp,Es_ok⟩
def isOpen (l : List Int) : Prop:=l.length = 128 ∧ sumL (l.take 124) = l.drop 124
instance (l : List Int) : Decidable (isOpen l):=inferInstanceAs (Decidable (_ ∧ _))
def openOut (l : List Int) : Out:=if isOpen l then ⟨.tup [.sl 0 1 0 124 true,.d (.v (.bool true))],[(0,.row 5 1 ((l.take 124).map mB))]⟩ else ⟨.tup [.nil,.d (.v (.bool false))],[]⟩
def Sp_sealed_Open (ds : List D) (out : Out) : Prop:=∃ l : List Int,ds = [.list (l.map mB)] ∧ Byt l ∧ l.length ≤ 9223372036854775807 ∧ out = openOut l
def bb_sealed_Open_1 : List Nat:=[0,1,3,7,15,31,63,15,143,511,1023,2047]
def cc_sealed_Open_1 : List (List (Option Bool)):=[[some false,some false,some false,some false,some false,some false,some false,some false,some false,some false,some false,some false],[some true,some false,some false,some false,some false,some false,some false,some false,some false,some false,some false,some false],[some true,some true,some false,some false,some false,some false,some false,some false,some false,some false,some false,some false],[some true,some true,some true,some false,some false,some false,some false,some false,some false,some false,some false,some false],[some true,some true,some true,some true,some false,some false,some false,none,none,some false,some false,some false],[some true,some true,some true,some true,some true,some false,some false,none,none,some false,some false,some false],[some true,some true,some true,some true,some true,some true,some false,none,none,some false,some false,some false],[some true,some true,some true,some true,none,none,none,some false,some false,some false,some false,some false],[some true,some true,some true,some true,none,none,none,some true,some false,some false,some false,some false],[some true,some true,some true,some true,some true,some true,some true,some true,some true,some false,some false,some false],[some true,some true,some true,some true,some true,some true,some true,some true,some true,some true,some false,some false],[some true,some true,some true,some true,some true,some true,some true,some true,some true,some true,some true,some false]]
theorem good_sealed_Open : Good Try.prog 81 Sp_sealed_Open:=by
  refine good_body (E:=Z2) (nt:=19) (rs:=#[.tmp 2,.tmp 3]) Try.func81 rfl rfl rfl ?_
  rintro ds out ⟨l,rfl,hb,hl,rfl⟩
  refine ⟨by simp,?_⟩
  by_cases h8 : l.length = 128
  case neg =>
    have hz : openOut l = ⟨.tup [.nil,.d (.v (.bool false))],[]⟩:=by rw [openOut,if_neg fun h=>h8 h.1]
    have hd8 : decide (¬ (l.length : Int) = 128) = true:=decide_eq_true (by omega)
    repeat' first
 | refine AW.seq ?_
 | refine AW.block ?_
 | refine AW.regl Z2_ok [0,2,3,15] ?_
 | (refine AW.regc (id:=1) Z2_ok follows bb_sealed_Open_1 (by kernel_rfl) [0,2,3,15] ?_)
 | refine then_n ?_
 | refine then_r ?_
 | refine then_x ?_
 | refine block_x ?_
 | refine block_o (by decide) ?_
 | refine block_n ?_
 | refine block_r ?_
 | refine AW.skip ?_
 | refine AW.ret ?_
 | refine AW.exit ?_
 | refine AW.cond rfl ?_ ?_
 | refine awl_none rfl ?_
 | refine awl_nil2 ?_
 | refine awc_none rfl ?_
 | refine awc_some rfl rfl (Nat.le_of_ble_eq_true rfl) rfl rfl ?_ ?_
 | exact each_nil
 | (refine each_some rfl rfl (Nat.le_of_ble_eq_true rfl) rfl ?_ ?_;first|(rw [if_pos rfl])|(rw [if_neg (by decide)];exact ⟨rfl,rfl⟩))
 | refine each_none rfl ?_ ?_
 | refine awc_leaf2 [some 4,some 5,some 6,some 7,some 8,some 9,some 10,some 11,some 12,some 13,some 14,some 15] cc_sealed_Open_1 rfl (by kernel_rfl) (by kernel_rfl) ?_ ?_
 | (refine fun (hc : _ = _)=>?_;first|cases hc|((try rw [hc]);(try simp only [stH] at hc);(try (exfalso;omega)));(try ((first|show Awl _ _ _ _ _|show Awc _ _ _ _ _ _);simp only [stU])))
 | ((first|refine fun (K : V → List _ → _) hK=>?_|refine fun (_ : V → V)=>?_|refine fun (bb : Nat → Bool) K hK=>?_);simp (disch:=omega) only [go_sem,Int.reduceEq,↓reduceIte,reduceCtorEq,Nat.reduceEqDiff,Nat.reduceLT,Nat.reduceLeDiff,Nat.reduceAdd,Nat.reduceSub,Nat.reduceMul,Int.reduceToNat,Int.reduceLE,Int.reduceLT,Z2,Sp_sealed_sum,Sp_bytes_Equal,hd8,Sg3,St.updIf,ifc_nil,gt_ifc,go_ifc,ite_self,Option.none_or,Option.some_or];(try (revert hK;intro hK;(repeat' first|(refine And.intro ?_ ?_)|(intro hc;first|cases hc|((try rw [hc]);(try simp only [stH] at hc);(try (exfalso;omega)))));all_goals first|(refine hK _ _ ?_;clear hK K;simp only [stU])|exact hK|omega)))
    (refine Ends.of (nm []) (by first|exact .inl rfl|exact .inr rfl) ?_;simp (disch:=omega) only [go_sem,Int.reduceEq,↓reduceIte,reduceCtorEq,Nat.reduceEqDiff,Nat.reduceLT,Nat.reduceLeDiff,Nat.reduceAdd,Nat.reduceSub,Nat.reduceMul,Int.reduceToNat,Int.reduceLE,Int.reduceLT,Z2,Sp_sealed_sum,Sp_bytes_Equal,hz])
  have hd8 : decide (¬ ((128 : Nat) : Int) = 128) = false:=rfl
  have hb1 : Byt (l.drop 124) = True:=eq_true (byt_drop hb _)
  have hb2 : Byt (sumL (l.take 124)) = True:=eq_true (sumL_byt _)
  have hlt : (l.take 124).length = 124:=by rw [List.length_take];omega
  have hts : ((sumL (l.take 124)).map mB).take 4 = (sumL (l.take 124)).map mB:=List.take_of_length_le (by simp [sumL_len])
  have htl : (l.map mB).take 128 = l.map mB:=List.take_of_length_le (by simp [h8])
  by_cases hs : sumL (l.take 124) = l.drop 124
  · have hz : openOut l = ⟨.tup [.sl 0 1 0 124 true,.d (.v (.bool true))],[(0,.row 5 1 ((l.take 124).map mB))]⟩:=by rw [openOut,if_pos ⟨h8,hs⟩]
    have hd : decide (sumL (l.take 124) = l.drop 124) = true:=decide_eq_true hs
    repeat' first
 | refine AW.seq ?_
 | refine AW.block ?_
 | refine AW.regl Z2_ok [0,2,3,15] ?_
 | (refine AW.regc (id:=1) Z2_ok follows bb_sealed_Open_1 (by kernel_rfl) [0,2,3,15] ?_)
 | refine then_n ?_
 | refine then_r ?_
 | refine then_x ?_
 | refine block_x ?_
 | refine block_o (by decide) ?_
 | refine block_n ?_
 | refine block_r ?_
 | refine AW.skip ?_
 | refine AW.ret ?_
 | refine AW.exit ?_
 | refine AW.cond rfl ?_ ?_
 | refine awl_none rfl ?_
 | refine awl_nil2 ?_
 | refine awc_none rfl ?_
 | refine awc_some rfl rfl (Nat.le_of_ble_eq_true rfl) rfl rfl ?_ ?_
 | exact each_nil
 | (refine each_some rfl rfl (Nat.le_of_ble_eq_true rfl) rfl ?_ ?_;first|(rw [if_pos rfl])|(rw [if_neg (by decide)];exact ⟨rfl,rfl⟩))
 | refine each_none rfl ?_ ?_
 | refine awc_leaf2 [some 4,some 5,some 6,some 7,some 8,some 9,some 10,some 11,some 12,some 13,some 14,some 15] cc_sealed_Open_1 rfl (by kernel_rfl) (by kernel_rfl) ?_ ?_
 | (refine fun (hc : _ = _)=>?_;first|cases hc|((try rw [hc]);(try simp only [stH] at hc);(try (exfalso;omega)));(try ((first|show Awl _ _ _ _ _|show Awc _ _ _ _ _ _);simp only [stU])))
 | ((first|refine fun (K : V → List _ → _) hK=>?_|refine fun (_ : V → V)=>?_|refine fun (bb : Nat → Bool) K hK=>?_);simp (disch:=omega) only [go_sem,Int.reduceEq,↓reduceIte,reduceCtorEq,Nat.reduceEqDiff,Nat.reduceLT,Nat.reduceLeDiff,Nat.reduceAdd,Nat.reduceSub,Nat.reduceMul,Int.reduceToNat,Int.reduceLE,Int.reduceLT,Z2,Sp_sealed_sum,Sp_bytes_Equal,hd8,sumL_len,all_B,hb1,hb2,hlt,hts,htl,h8,hd,mB_inj,cutOk,map_take',map_drop',Sg3,St.updIf,ifc_nil,gt_ifc,go_ifc,ite_self,Option.none_or,Option.some_or];(try (revert hK;intro hK;(repeat' first|(refine And.intro ?_ ?_)|(intro hc;first|cases hc|((try rw [hc]);(try simp only [stH] at hc);(try (exfalso;omega)))));all_goals first|(refine hK _ _ ?_;clear hK K;simp only [stU])|exact hK|omega)))
    (refine Ends.of (nm [(0,18)]) (by first|exact .inl rfl|exact .inr rfl) ?_;simp (disch:=omega) only [go_sem,Int.reduceEq,↓reduceIte,reduceCtorEq,Nat.reduceEqDiff,Nat.reduceLT,Nat.reduceLeDiff,Nat.reduceAdd,Nat.reduceSub,Nat.reduceMul,Int.reduceToNat,Int.reduceLE,Int.reduceLT,Z2,Sp_sealed_sum,Sp_bytes_Equal,hz])
  · have hz : openOut l = ⟨.tup [.nil,.d (.v (.bool false))],[]⟩:=by rw [openOut,if_neg fun h=>hs h.2]
    have hd : decide (sumL (l.take 124) = l.drop 124) = false:=decide_eq_false hs
    repeat' first
 | refine AW.seq ?_
 | refine AW.block ?_
 | refine AW.regl Z2_ok [0,2,3,15] ?_
 | (refine AW.regc (id:=1) Z2_ok follows bb_sealed_Open_1 (by kernel_rfl) [0,2,3,15] ?_)
 | refine then_n ?_
 | refine then_r ?_
 | refine then_x ?_
 | refine block_x ?_
 | refine block_o (by decide) ?_
 | refine block_n ?_
 | refine block_r ?_
 | refine AW.skip ?_
 | refine AW.ret ?_
 | refine AW.exit ?_
 | refine AW.cond rfl ?_ ?_
 | refine awl_none rfl ?_
 | refine awl_nil2 ?_
 | refine awc_none rfl ?_
 | refine awc_some rfl rfl (Nat.le_of_ble_eq_true rfl) rfl rfl ?_ ?_
 | exact each_nil
 | (refine each_some rfl rfl (Nat.le_of_ble_eq_true rfl) rfl ?_ ?_;first|(rw [if_pos rfl])|(rw [if_neg (by decide)];exact ⟨rfl,rfl⟩))
 | refine each_none rfl ?_ ?_
 | refine awc_leaf2 [some 4,some 5,some 6,some 7,some 8,some 9,some 10,some 11,some 12,some 13,some 14,some 15] cc_sealed_Open_1 rfl (by kernel_rfl) (by kernel_rfl) ?_ ?_
 | (refine fun (hc : _ = _)=>?_;first|cases hc|((try rw [hc]);(try simp only [stH] at hc);(try (exfalso;omega)));(try ((first|show Awl _ _ _ _ _|show Awc _ _ _ _ _ _);simp only [stU])))
 | ((first|refine fun (K : V → List _ → _) hK=>?_|refine fun (_ : V → V)=>?_|refine fun (bb : Nat → Bool) K hK=>?_);simp (disch:=omega) only [go_sem,Int.reduceEq,↓reduceIte,reduceCtorEq,Nat.reduceEqDiff,Nat.reduceLT,Nat.reduceLeDiff,Nat.reduceAdd,Nat.reduceSub,Nat.reduceMul,Int.reduceToNat,Int.reduceLE,Int.reduceLT,Z2,Sp_sealed_sum,Sp_bytes_Equal,hd8,sumL_len,all_B,hb1,hb2,hlt,hts,htl,h8,hd,mB_inj,cutOk,map_take',map_drop',Sg3,St.updIf,ifc_nil,gt_ifc,go_ifc,ite_self,Option.none_or,Option.some_or];(try (revert hK;intro hK;(repeat' first|(refine And.intro ?_ ?_)|(intro hc;first|cases hc|((try rw [hc]);(try simp only [stH] at hc);(try (exfalso;omega)))));all_goals first|(refine hK _ _ ?_;clear hK K;simp only [stU])|exact hK|omega)))
    (refine Ends.of (nm []) (by first|exact .inl rfl|exact .inr rfl) ?_;simp (disch:=omega) only [go_sem,Int.reduceEq,↓reduceIte,reduceCtorEq,Nat.reduceEqDiff,Nat.reduceLT,Nat.reduceLeDiff,Nat.reduceAdd,Nat.reduceSub,Nat.reduceMul,Int.reduceToNat,Int.reduceLE,Int.reduceLT,Z2,Sp_sealed_sum,Sp_bytes_Equal,hz])
theorem ent_sealed_Open : Ent Try.prog 81:=⟨_,Try.func81,rfl,by decide⟩
end Go.Proofs.Ytigkcigoiinkpaa.Am
end
