import Derived.Test.YtigkcigoiinkpaaZNFa
import Derived.Test.YtigkcigoiinkpaaZNB
set_option linter.unusedVariables false
set_option linter.unusedSimpArgs false
set_option maxRecDepth 10000
set_option maxHeartbeats 0
namespace Go.Proofs.Ytigkcigoiinkpaa.Am
open Go Go.RowKit Go.Proofs
theorem leV_one0 {m : List Int} (h : 1 ≤ m.length) : leV (m.take 1) = m.getD 0 0:=by
  cases m with
  | nil=>simp at h
  | cons a r=>simp [leV]
theorem takeL_r {b : List Int} (h : 3 ≤ b.length) : takeL b [2,1] = some [leV (b.take 2),leV ((b.drop 2).take 1)]:=by
  simp only [takeL,List.length_drop,show (2 : Int).toNat = 2 from rfl,show (1 : Int).toNat = 1 from rfl]
  rw [if_neg (by omega),if_neg (by omega)];rfl
def gR1 (b : List Int) (n : Nat) : Prop:=n ≤ ((rM b).getD 0 0).toNat ∧ n ≤ 59 ∧ (n = ((rM b).getD 0 0).toNat ∨ n = 59)
def uR (b : List Int) (n : Nat) : List Int:=takeI ((rM b).drop 1) n
def gR3 (b : List Int) (n : Nat) (R : List Int) : Prop:=(n = 59 ∧ R = []) ∨ (n < 59 ∧ ∃ m1 : Nat,m1 ≤ ((nI b).getD (3 + 2 * n) 0).toNat ∧ (m1 = ((nI b).getD (3 + 2 * n) 0).toNat ∨ 121 < 4 + 2 * n + 2 * m1 + 2) ∧ R = takeI ((nI b).drop (4 + 2 * n)) m1)
theorem uR_len (b : List Int) (n : Nat) : (uR b n).length = n:=takeI_len _ _
theorem getD_dropN (l : List Int) (i j : Nat) : (l.drop i).getD j 0 = l.getD (i + j) 0:=by
  rw [List.getD_eq_getElem?_getD,List.getD_eq_getElem?_getD,List.getElem?_drop]
theorem rr_same {b : List Int} (hb : Byt b) {n : Nat} {R : List Int} (h1 : gR1 b n) (h3 : gR3 b n R) (hn : n ≤ 4) (hR : R.length ≤ 4) : uR b n = rU b ∧ R = rR b:=by
  have hc:=getD_byt (byt_drop (nI_byt hb) 2) 0
  obtain ⟨a1,a2,a3⟩:=h1
  have hnc : n = ((rM b).getD 0 0).toNat:=by omega
  have e1 : tkN (rM b) = n:=by unfold tkN;omega
  have hu : uR b n = rU b:=by unfold uR rU tkL;rw [e1]
  refine ⟨hu,?_⟩
  rcases h3 with ⟨h,_⟩|⟨_,m1,b1,b2,rfl⟩
  · omega
  rw [takeI_len] at hR
  have hmr:=getD_byt (nI_byt hb) (3 + 2 * n)
  have hm : m1 = ((nI b).getD (3 + 2 * n) 0).toNat:=by omega
  have e2 : tkR (rM b) = (nI b).drop (3 + 2 * n):=by
    unfold tkR rM
    rw [show tkN ((nI b).drop 2) = n from e1,List.drop_drop,List.drop_drop]
    congr 1
    omega
  have e3 : tkN (tkR (rM b)) = m1:=by
    unfold tkN
    rw [e2,getD_dropN,Nat.add_zero]
    omega
  unfold rR tkL
  rw [e3,e2,List.drop_drop,show 3 + 2 * n + 1 = 4 + 2 * n by omega]
theorem root_few {b : List Int} (h : rootOk b) : ((rM b).getD 0 0).toNat ≤ 4 ∧ ((nI b).getD (3 + 2 * ((rM b).getD 0 0).toNat) 0).toNat ≤ 4:=by
  obtain ⟨_,_,hm,he⟩:=h
  have hl:=rootL_len hm
  generalize hU : rU b = U at *
  generalize hR : rR b = R at *
  generalize hw : rN b = w at *
  obtain ⟨h1,⟨h2,h2'⟩,⟨h3,h3'⟩⟩:=hm
  unfold secN at h1
  have l2 : (putB (max 0 w) 2).length = 2:=putB_len _ 2
  have eI : nI b = putB (max 0 w) 2 ++ (rowB U ++ (rowB R ++ List.replicate (121 - (rootL w U R).length) 0)):=by
    rw [← he];unfold rootP;rw [nodP_nI hl];unfold rootL;simp only [List.append_assoc]
  have eM : rM b = rowB U ++ (rowB R ++ List.replicate (121 - (rootL w U R).length) 0):=by unfold rM;rw [eI,List.drop_left' l2]
  have g0 : ∀ (l X : List Int),l.length ≤ 4 → (rowB l ++ X).getD 0 0 = l.length:=fun l X hl4=>by
    unfold rowB
    rw [putB1_one (by omega) (by omega)];rfl
  have c1 : (rM b).getD 0 0 = U.length:=by rw [eM];exact g0 U _ h2'
  have c2 : (nI b).getD (3 + 2 * U.length) 0 = R.length:=by
    have e : (nI b).getD (3 + 2 * U.length) 0 = ((rM b).drop (1 + 2 * U.length)).getD 0 0:=by
      unfold rM
      rw [List.drop_drop,getD_dropN]
      congr 1
      omega
    rw [e,eM,List.drop_left' (rowB_len U)]
    exact g0 R _ h3'
  rw [c1,Int.toNat_natCast,c2]
  omega
theorem rr_key {b : List Int} (hb : Byt b) (ho : oH 4 b) {n : Nat} {R : List Int} (h1 : gR1 b n) (h3 : gR3 b n R) :
    ((mayR (rN b) (uR b n) R ∧ rootP (rN b) (uR b n) R = b) ↔ rootOk b) ∧ (rootOk b → uR b n = rU b ∧ R = rR b):=by
  have hB : rootOk b → uR b n = rU b ∧ R = rR b:=fun h=>by
    obtain ⟨f1,f2⟩:=root_few h
    obtain ⟨a1,a2,a3⟩:=h1
    have hn4 : n ≤ 4:=by omega
    have hnc : n = ((rM b).getD 0 0).toNat:=by omega
    refine rr_same hb ⟨a1,a2,a3⟩ h3 hn4 ?_
    rcases h3 with ⟨_,rfl⟩|⟨_,m1,b1,b2,rfl⟩
    · simp
    · rw [takeI_len];rw [← hnc] at f2;omega
  refine ⟨⟨fun ⟨hm,he⟩=>?_,fun h=>?_⟩,hB⟩
  · obtain ⟨e1,e2⟩:=rr_same hb h1 h3 (by have:=hm.2.1.2;rwa [uR_len] at this) hm.2.2.2
    have hN : nN b = 1:=by rw [← he];exact nodP_nN (rootL_len hm)
    rw [e1,e2] at hm he
    exact ⟨ho,hN,hm,he⟩
  · obtain ⟨e1,e2⟩:=hB h
    rw [e1,e2]
    exact ⟨h.2.2.1,h.2.2.2⟩
noncomputable def NF5 : Env:=⟨Try.prog,fun f ds out=>(f = 76 ∧ Sp_overdubref20_open ds out) ∨ (f = 78 ∧ Sp_overdubref01_Take ds out) ∨ (f = 79 ∧ Sp_overdubref01_Get ds out) ∨ (f = 33 ∧ Sp_overdubref20_PackRoot ds out),Es,fun _=>false⟩
theorem NF5_sp : ∀ f ds out,NF5.Sp f ds out → Ent NF5.P f ∧ Good NF5.P f (fun a b=>a = ds ∧ b = out):=by
  rintro f ds out (⟨rfl,h⟩|⟨rfl,h⟩|⟨rfl,h⟩|⟨rfl,h⟩)
  · exact ⟨ent_overdubref20_open,good_overdubref20_open.one h⟩
  · exact ⟨ent_overdubref01_Take,good_overdubref01_Take.one h⟩
  · exact ⟨ent_overdubref01_Get,good_overdubref01_Get.one h⟩
  · exact ⟨ent_overdubref20_PackRoot,good_overdubref20_PackRoot.one h⟩
theorem NF5_ok : NF5.Ok:=⟨NF5_sp,Es_ok⟩
def stQ0 (b : List Int) : St:=⟨[(0,.d (.list (b.map mB))),(2,.d (.v (.int .i64 0))),(3,.nil),(4,.nil),(5,.d (.v (.bool false))),(7,.d (.list ((nI b).map mB))),(11,.d (.v (.int .i64 (rN b)))),(12,.d (.v (.int .i64 ((rM b).getD 0 0)))),(13,.nil),(14,.nil),(15,.d (.v (.int .i64 3)))],[],128⟩
def stQ1 (b : List Int) (n : Nat) : St:=⟨[(0,.d (.list (b.map mB))),(2,.d (.v (.int .i64 0))),(3,.nil),(4,.nil),(5,.d (.v (.bool false))),(7,.d (.list ((nI b).map mB))),(11,.d (.v (.int .i64 (rN b)))),(13,.sl 100 1 0 n true),(14,.nil),(15,.d (.v (.int .i64 (3 + 2 * n))))],[(100,.row 3 1 ((uR b n).map mI))],128⟩
def stQ2 (b : List Int) (n : Nat) (m a : Int) : St:=⟨[(0,.d (.list (b.map mB))),(2,.d (.v (.int .i64 0))),(3,.nil),(4,.nil),(5,.d (.v (.bool false))),(7,.d (.list ((nI b).map mB))),(11,.d (.v (.int .i64 (rN b)))),(13,.sl 100 1 0 n true),(14,.nil),(15,.d (.v (.int .i64 a))),(19,.d (.v (.int .i64 m)))],[(100,.row 3 1 ((uR b n).map mI))],128⟩
def stQ3 (b : List Int) (n : Nat) (R : List Int) : St:=⟨[(0,.d (.list (b.map mB))),(2,.d (.v (.int .i64 0))),(3,.nil),(4,.nil),(5,.d (.v (.bool false))),(11,.d (.v (.int .i64 (rN b)))),(13,.sl 100 1 0 n true),(14,.sl 101 1 0 R.length true)],[(100,.row 3 1 ((uR b n).map mI)),(101,.row 3 1 (R.map mI))],128⟩
def stQL (b : List Int) (c : Int) (k : Nat) : St:=⟨[(0,.d (.list (b.map mB))),(2,.d (.v (.int .i64 0))),(3,.nil),(4,.nil),(5,.d (.v (.bool false))),(7,.d (.list ((nI b).map mB))),(11,.d (.v (.int .i64 (rN b)))),(12,.d (.v (.int .i64 c))),(13,.sl 100 1 0 k true),(14,.nil),(15,.d (.v (.int .i64 (3 + 2 * k)))),(16,.d (.v (.int .i64 k)))],[(100,.row 3 1 ((uR b k).map mI))],128⟩
def stQM (b : List Int) (n : Nat) (m a : Int) (Z : List Int) (k : Nat) : St:=⟨[(0,.d (.list (b.map mB))),(2,.d (.v (.int .i64 0))),(3,.nil),(4,.nil),(5,.d (.v (.bool false))),(7,.d (.list ((nI b).map mB))),(11,.d (.v (.int .i64 (rN b)))),(13,.sl 100 1 0 n true),(14,.sl 101 1 0 k true),(15,.d (.v (.int .i64 (a + 2 * k)))),(19,.d (.v (.int .i64 m))),(20,.d (.v (.int .i64 k)))],[(100,.row 3 1 ((uR b n).map mI)),(101,.row 3 1 ((takeI Z k).map mI))],128⟩
theorem W2r (a b : Int) (ws : List Int) : ([D.v (.int .i64 a),D.v (.int .i64 b)] = ws.map mI) = (ws = [a,b]):=W2d a b ws
theorem snoc_Ir (l : List Int) (a : Int) : l.map mI ++ [D.v (.int .i64 a)] = (l ++ [a]).map mI:=by rw [List.map_append];rfl
def Sp_overdubref20_Root (ds : List D) (out : Out) : Prop:=∃ b : List Int,ds = [.list (b.map mB)] ∧ Byt b ∧ b.length ≤ 9223372036854775807 ∧ out = rootOut b
def bb_overdubref20_Root_5 : List Nat:=[0,1,3,0,8,24,7,127]
theorem good_overdubref20_Root : Good Try.prog 60 Sp_overdubref20_Root:=by
  refine good_body (E:=NF5) (nt:=128) (rs:=#[.tmp 2,.tmp 3,.tmp 4,.tmp 5]) Try.func60 rfl rfl rfl ?_
  rintro ds out ⟨b,rfl,hb,hl,rfl⟩
  refine ⟨by simp,?_⟩
  have hbt : Byt b = True:=eq_true hb
  by_cases ho : oH 4 b
  case neg =>
    have hop : ropOut 4 b = ⟨.tup [.d (.v (.int .i64 0)),.nil,.d (.v (.bool false))],[]⟩:=if_neg ho
    have hz : rootOut b = rootNo:=if_neg fun h=>ho h.1
    repeat' first
 | refine AW.seq ?_
 | refine AW.block ?_
 | refine AW.regl NF5_ok [0,2,3,4,5,7,8,9,11,12,13,14,15,16,17,19,20,21,23,31,53,74,91,124] ?_
 | (refine AW.regq (id:=5) NF5_ok follows bb_overdubref20_Root_5 (by kernel_rfl) [0,2,3,4,5,7,8,9,11,12,13,14,15,16,17,19,20,21,23,31,53,74,91,124] ?_)
 | refine then_n ?_
 | refine then_r ?_
 | refine then_x ?_
 | refine block_x ?_
 | refine block_o (by decide) ?_
 | refine block_n ?_
 | refine block_r ?_
 | refine AW.skip ?_
 | refine AW.ret ?_
 | refine AW.exit ?_
 | refine AW.cond rfl ?_ ?_
 | refine awl_none rfl ?_
 | refine awl_nil2 ?_
 | refine awl_some rfl rfl (Nat.le_of_ble_eq_true rfl) rfl rfl ?_ ?_
 | refine awc_none rfl ?_
 | refine awc_nilq (by kernel_rfl) (by kernel_rfl) ?_
 | (refine fun (hc : _ = _)=>?_;first|cases hc|((try rw [hc]);(try simp only [stH] at hc);(try (exfalso;omega)));(try ((first|show Awl _ _ _ _ _|show Awc _ _ _ _ _ _);simp only [stU])))
 | ((first|refine fun (K : V → List _ → _) hK=>?_|refine fun (_ : V → V)=>?_);simp (disch:=omega) only [go_sem,Int.reduceEq,↓reduceIte,reduceCtorEq,Nat.reduceEqDiff,Nat.reduceLT,Nat.reduceLeDiff,Nat.reduceAdd,Nat.reduceSub,Nat.reduceMul,Int.reduceToNat,Int.reduceLE,Int.reduceLT,NF5,Sp_overdubref20_open,Sp_overdubref01_Take,Sp_overdubref01_Get,Sp_overdubref20_PackRoot,hbt,hop,mB_inj,Sg3,St.updIf,ifc_nil,gt_ifc,go_ifc,ite_self,Option.none_or,Option.some_or];(try (revert hK;intro hK;(repeat' first|(refine And.intro ?_ ?_)|(intro hc;first|cases hc|((try rw [hc]);(try simp only [stH] at hc);(try (exfalso;omega)))));all_goals first|(refine hK _ _ ?_;clear hK K;simp only [stU])|exact hK|omega)))
    (refine Ends.of (nm []) (by first|exact .inl rfl|exact .inr rfl) ?_;simp (disch:=omega) only [go_sem,Int.reduceEq,↓reduceIte,reduceCtorEq,Nat.reduceEqDiff,Nat.reduceLT,Nat.reduceLeDiff,Nat.reduceAdd,Nat.reduceSub,Nat.reduceMul,Int.reduceToNat,Int.reduceLE,Int.reduceLT,NF5,Sp_overdubref20_open,Sp_overdubref01_Take,Sp_overdubref01_Get,Sp_overdubref20_PackRoot,hz,rootNo])
  have hop : ropOut 4 b = ⟨.tup [.d (.v (.int .i64 (nN b))),.d (.list ((nI b).map mB)),.d (.v (.bool true))],[]⟩:=if_pos ho
  have h8:=ho.1.1
  have hnb:=nI_byt hb
  have hny : Byt (nI b) = True:=eq_true hnb
  have hnl:=nI_len h8
  have hMl : (rM b).length = 119:=by unfold rM;rw [List.length_drop,hnl]
  have hg : takeOut (nI b) [2,1] = ⟨.tup [.sl 0 1 0 2 true,.d (.v (.bool true))],[(0,.row 3 1 [.v (.int .i64 (rN b)),.v (.int .i64 ((rM b).getD 0 0))])]⟩:=by
    rw [takeOut,takeL_r (by omega)]
    have : leV (((nI b).drop 2).take 1) = (rM b).getD 0 0:=leV_one0 (m:=rM b) (by omega)
    rw [this];rfl
  have hc:=getD_byt (byt_drop hnb 2) 0
  have hN : nN b = nN b:=rfl
  have hkey : ∀ (n : Nat) (R : List Int),gR1 b n → gR3 b n R → ((mayR (rN b) (uR b n) R ∧ rootP (rN b) (uR b n) R = b) ↔ rootOk b) ∧ (rootOk b → uR b n = rU b ∧ R = rR b):=fun n R h1 h3=>rr_key hb ho h1 h3
  change 0 ≤ (rM b).getD 0 0 ∧ (rM b).getD 0 0 < 256 at hc
  refine AW.m7 (stQ0 b) ?_ ?_
  · clear hkey
    repeat' first
 | refine AW.seq ?_
 | refine AW.block ?_
 | refine AW.regl NF5_ok [0,2,3,4,5,7,8,9,11,12,13,14,15,16,17,19,20,21,23,31,53,74,91,124] ?_
 | (refine AW.regq (id:=5) NF5_ok follows bb_overdubref20_Root_5 (by kernel_rfl) [0,2,3,4,5,7,8,9,11,12,13,14,15,16,17,19,20,21,23,31,53,74,91,124] ?_)
 | refine then_n ?_
 | refine then_r ?_
 | refine then_x ?_
 | refine block_x ?_
 | refine block_o (by decide) ?_
 | refine block_n ?_
 | refine block_r ?_
 | refine AW.skip ?_
 | refine AW.ret ?_
 | refine AW.exit ?_
 | refine AW.cond rfl ?_ ?_
 | refine awl_none rfl ?_
 | refine awl_nil2 ?_
 | refine awl_some rfl rfl (Nat.le_of_ble_eq_true rfl) rfl rfl ?_ ?_
 | refine awc_none rfl ?_
 | refine awc_nilq (by kernel_rfl) (by kernel_rfl) ?_
 | (refine fun (hc : _ = _)=>?_;first|cases hc|((try rw [hc]);(try simp only [stH] at hc);(try (exfalso;omega)));(try ((first|show Awl _ _ _ _ _|show Awc _ _ _ _ _ _);simp only [stU])))
 | ((first|refine fun (K : V → List _ → _) hK=>?_|refine fun (_ : V → V)=>?_);simp (disch:=omega) only [go_sem,Int.reduceEq,↓reduceIte,reduceCtorEq,Nat.reduceEqDiff,Nat.reduceLT,Nat.reduceLeDiff,Nat.reduceAdd,Nat.reduceSub,Nat.reduceMul,Int.reduceToNat,Int.reduceLE,Int.reduceLT,NF5,Sp_overdubref20_open,Sp_overdubref01_Take,Sp_overdubref01_Get,Sp_overdubref20_PackRoot,hbt,hop,hny,hnl,hg,W2r,nth,List.getD_cons_zero,List.getD_cons_succ,mB_inj,Sg3,St.updIf,ifc_nil,gt_ifc,go_ifc,ite_self,Option.none_or,Option.some_or];(try (revert hK;intro hK;(repeat' first|(refine And.intro ?_ ?_)|(intro hc;first|cases hc|((try rw [hc]);(try simp only [stH] at hc);(try (exfalso;omega)))));all_goals first|(refine hK _ _ ?_;clear hK K;simp only [stU])|exact hK|omega)))
    refine ⟨nm [],Wk.of ?_⟩
    simp (disch:=omega) only [go_sem,Int.reduceEq,↓reduceIte,reduceCtorEq,Nat.reduceEqDiff,Nat.reduceLT,Nat.reduceLeDiff,Nat.reduceAdd,Nat.reduceSub,Nat.reduceMul,Int.reduceToNat,Int.reduceLE,Int.reduceLT,NF5,Sp_overdubref20_open,Sp_overdubref01_Take,Sp_overdubref01_Get,Sp_overdubref20_PackRoot,stQ0]
  clear hop hg
  have hsnocU : ∀ k,uR b (k + 1) = uR b k ++ [leV (((nI b).drop (3 + 2 * k)).take 2)]:=fun k=>by
    unfold uR
    rw [takeI_snoc]
    unfold rM
    rw [List.drop_drop,List.drop_drop,show 2 + 1 + 2 * k = 3 + 2 * k by omega]
  have hwin : ∀ i : Nat,i + 2 ≤ 121 → (((nI b).map mB).take (i + 2)).drop i = (((nI b).drop i).take 2).map mB:=fun i hi=>by
    rw [List.drop_take,show i + 2 - i = 2 by omega,List.map_take,List.map_drop]
  have hw2 : ∀ i : Nat,i + 2 ≤ 121 → Byt (((nI b).drop i).take 2) ∧ (((nI b).drop i).take 2).length = 2:=fun i hi=>⟨byt_take (byt_drop hnb _) _,by rw [List.length_take,List.length_drop,hnl];omega⟩
  refine AW.mx1 (stQ1 b) (gR1 b) ?_ ?_
  · obtain ⟨c,hcn⟩ : ∃ c : Nat,(rM b).getD 0 0 = c:=⟨((rM b).getD 0 0).toNat,by omega⟩
    have hG1 : ∀ n,gR1 b n ↔ n ≤ c ∧ n ≤ 59 ∧ (n = c ∨ n = 59):=fun n=>by unfold gR1;rw [hcn,Int.toNat_natCast]
    have hst0 : stQ0 b = ⟨[(0,.d (.list (b.map mB))),(2,.d (.v (.int .i64 0))),(3,.nil),(4,.nil),(5,.d (.v (.bool false))),(7,.d (.list ((nI b).map mB))),(11,.d (.v (.int .i64 (rN b)))),(12,.d (.v (.int .i64 c))),(13,.nil),(14,.nil),(15,.d (.v (.int .i64 3)))],[],128⟩:=by unfold stQ0;rw [hcn]
    rw [hst0]
    clear hst0 hkey
    repeat' first
 | refine AW.seq ?_
 | refine AW.block ?_
 | refine AW.regl NF5_ok [0,2,3,4,5,7,8,9,11,12,13,14,15,16,17,19,20,21,23,31,53,74,91,124] ?_
 | (refine AW.regq (id:=5) NF5_ok follows bb_overdubref20_Root_5 (by kernel_rfl) [0,2,3,4,5,7,8,9,11,12,13,14,15,16,17,19,20,21,23,31,53,74,91,124] ?_)
 | refine then_n ?_
 | refine then_r ?_
 | refine then_x ?_
 | refine block_x ?_
 | refine block_o (by decide) ?_
 | refine block_n ?_
 | refine block_r ?_
 | refine AW.skip ?_
 | refine AW.ret ?_
 | refine AW.exit ?_
 | refine AW.cond rfl ?_ ?_
 | refine awl_none rfl ?_
 | refine awl_nil2 ?_
 | refine awl_some rfl rfl (Nat.le_of_ble_eq_true rfl) rfl rfl ?_ ?_
 | refine awc_none rfl ?_
 | refine awc_nilq (by kernel_rfl) (by kernel_rfl) ?_
 | (refine fun (hc : _ = _)=>?_;first|cases hc|((try rw [hc]);(try simp only [stH] at hc);(try (exfalso;omega)));(try ((first|show Awl _ _ _ _ _|show Awc _ _ _ _ _ _);simp only [stU])))
 | ((first|refine fun (K : V → List _ → _) hK=>?_|refine fun (_ : V → V)=>?_);simp (disch:=omega) only [go_sem,Int.reduceEq,↓reduceIte,reduceCtorEq,Nat.reduceEqDiff,Nat.reduceLT,Nat.reduceLeDiff,Nat.reduceAdd,Nat.reduceSub,Nat.reduceMul,Int.reduceToNat,Int.reduceLE,Int.reduceLT,NF5,Sp_overdubref20_open,Sp_overdubref01_Take,Sp_overdubref01_Get,Sp_overdubref20_PackRoot,Sg3,St.updIf,ifc_nil,gt_ifc,go_ifc,ite_self,Option.none_or,Option.some_or];(try (revert hK;intro hK;(repeat' first|(refine And.intro ?_ ?_)|(intro hc;first|cases hc|((try rw [hc]);(try simp only [stH] at hc);(try (exfalso;omega)))));all_goals first|(refine hK _ _ ?_;clear hK K;simp only [stU])|exact hK|omega)))
    refine AW.loop_wk (fun k : Nat=>stQL b c k) (fun k=>k ≤ c ∧ k ≤ 59) (fun k=>c - k) 0 ⟨by omega,by omega⟩ (fun w0 oa a w hs=>Wk.sr (ρ:=nm []) (Wk.of ?_) (nil_sr 13 100 3 1 rfl (by simp) rfl (by decide) hs)) ?_
    · simp (disch:=omega) only [go_sem,Int.reduceEq,↓reduceIte,reduceCtorEq,Nat.reduceEqDiff,Nat.reduceLT,Nat.reduceLeDiff,Nat.reduceAdd,Nat.reduceSub,Nat.reduceMul,Int.reduceToNat,Int.reduceLE,Int.reduceLT,NF5,Sp_overdubref20_open,Sp_overdubref01_Take,Sp_overdubref01_Get,Sp_overdubref20_PackRoot,stQL]
      all_goals first|done|rfl|exact ⟨rfl,rfl⟩|(refine ⟨by congr 1,?_⟩;rfl)
    · rintro k ⟨hk,hk59⟩
      by_cases hk1 : k < c ∧ k < 59
      · obtain ⟨w2b,w2l⟩:=hw2 (3 + 2 * k) (by omega)
        have hwk:=hwin (3 + 2 * k) (by omega)
        have hby : Byt (((nI b).drop (3 + 2 * k)).take 2) = True:=eq_true w2b
        have hget : getOut (((nI b).drop (3 + 2 * k)).take 2) = ⟨.tup [.d (.v (.int .i64 (leV (((nI b).drop (3 + 2 * k)).take 2)))),.d (.v (.bool true))],[]⟩:=by rw [getOut,if_neg (by omega)]
        have i1 : (3 + 2 * (k : Int)).toNat = 3 + 2 * k:=by omega
        have i2 : (3 + 2 * (k : Int) + 2).toNat = 3 + 2 * k + 2:=by omega
        have hs:=hsnocU k
        have hul:=uR_len b k
        have hulm : ((uR b k).map mI).length = k:=by rw [List.length_map,hul]
        obtain ⟨hk2,hk3⟩:=hk1
        clear hG1 hsnocU hwin hw2
        generalize leV (((nI b).drop (3 + 2 * k)).take 2) = x at *
        generalize ((nI b).drop (3 + 2 * k)).take 2 = W at *
        repeat' first
 | refine AW.seq ?_
 | refine AW.block ?_
 | refine AW.regl NF5_ok [0,2,3,4,5,7,8,9,11,12,13,14,15,16,17,19,20,21,23,31,53,74,91,124] ?_
 | (refine AW.regq (id:=5) NF5_ok follows bb_overdubref20_Root_5 (by kernel_rfl) [0,2,3,4,5,7,8,9,11,12,13,14,15,16,17,19,20,21,23,31,53,74,91,124] ?_)
 | refine then_n ?_
 | refine then_r ?_
 | refine then_x ?_
 | refine block_x ?_
 | refine block_o (by decide) ?_
 | refine block_n ?_
 | refine block_r ?_
 | refine AW.skip ?_
 | refine AW.ret ?_
 | refine AW.exit ?_
 | refine AW.cond rfl ?_ ?_
 | refine awl_none rfl ?_
 | refine awl_nil2 ?_
 | refine awl_some rfl rfl (Nat.le_of_ble_eq_true rfl) rfl rfl ?_ ?_
 | refine awc_none rfl ?_
 | refine awc_nilq (by kernel_rfl) (by kernel_rfl) ?_
 | (refine fun (hc : _ = _)=>?_;first|cases hc|((try rw [hc]);(try simp only [stH] at hc);(try (exfalso;omega)));(try ((first|show Awl _ _ _ _ _|show Awc _ _ _ _ _ _);simp only [stU])))
 | ((first|refine fun (K : V → List _ → _) hK=>?_|refine fun (_ : V → V)=>?_);simp (disch:=omega) only [go_sem,Int.reduceEq,↓reduceIte,reduceCtorEq,Nat.reduceEqDiff,Nat.reduceLT,Nat.reduceLeDiff,Nat.reduceAdd,Nat.reduceSub,Nat.reduceMul,Int.reduceToNat,Int.reduceLE,Int.reduceLT,NF5,Sp_overdubref20_open,Sp_overdubref01_Take,Sp_overdubref01_Get,Sp_overdubref20_PackRoot,stQL,hnl,i1,i2,hwk,hby,hget,w2l,hul,hulm,mB_inj,Sg3,St.updIf,ifc_nil,gt_ifc,go_ifc,ite_self,Option.none_or,Option.some_or];(try (revert hK;intro hK;(repeat' first|(refine And.intro ?_ ?_)|(intro hc;first|cases hc|((try rw [hc]);(try simp only [stH] at hc);(try (exfalso;omega)))));all_goals first|(refine hK _ _ ?_;clear hK K;simp only [stU])|exact hK|omega)))
        refine ⟨k + 1,by omega,by omega,by omega,nm [(100,68)],Wk.of ?_⟩
        simp (disch:=omega) only [go_sem,Int.reduceEq,↓reduceIte,reduceCtorEq,Nat.reduceEqDiff,Nat.reduceLT,Nat.reduceLeDiff,Nat.reduceAdd,Nat.reduceSub,Nat.reduceMul,Int.reduceToNat,Int.reduceLE,Int.reduceLT,NF5,Sp_overdubref20_open,Sp_overdubref01_Take,Sp_overdubref01_Get,Sp_overdubref20_PackRoot,stQL,hs,snoc_Ir]
        all_goals first|done|rfl|exact ⟨rfl,rfl⟩|(refine ⟨by congr 4;omega,?_⟩;first|rfl|exact ⟨rfl,rfl⟩)|trace_state
      · have hg1 : gR1 b k:=(hG1 k).2 (by omega)
        repeat' first
 | refine AW.seq ?_
 | refine AW.block ?_
 | refine AW.regl NF5_ok [0,2,3,4,5,7,8,9,11,12,13,14,15,16,17,19,20,21,23,31,53,74,91,124] ?_
 | (refine AW.regq (id:=5) NF5_ok follows bb_overdubref20_Root_5 (by kernel_rfl) [0,2,3,4,5,7,8,9,11,12,13,14,15,16,17,19,20,21,23,31,53,74,91,124] ?_)
 | refine then_n ?_
 | refine then_r ?_
 | refine then_x ?_
 | refine block_x ?_
 | refine block_o (by decide) ?_
 | refine block_n ?_
 | refine block_r ?_
 | refine AW.skip ?_
 | refine AW.ret ?_
 | refine AW.exit ?_
 | refine AW.cond rfl ?_ ?_
 | refine awl_none rfl ?_
 | refine awl_nil2 ?_
 | refine awl_some rfl rfl (Nat.le_of_ble_eq_true rfl) rfl rfl ?_ ?_
 | refine awc_none rfl ?_
 | refine awc_nilq (by kernel_rfl) (by kernel_rfl) ?_
 | (refine fun (hc : _ = _)=>?_;first|cases hc|((try rw [hc]);(try simp only [stH] at hc);(try (exfalso;omega)));(try ((first|show Awl _ _ _ _ _|show Awc _ _ _ _ _ _);simp only [stU])))
 | ((first|refine fun (K : V → List _ → _) hK=>?_|refine fun (_ : V → V)=>?_);simp (disch:=omega) only [go_sem,Int.reduceEq,↓reduceIte,reduceCtorEq,Nat.reduceEqDiff,Nat.reduceLT,Nat.reduceLeDiff,Nat.reduceAdd,Nat.reduceSub,Nat.reduceMul,Int.reduceToNat,Int.reduceLE,Int.reduceLT,NF5,Sp_overdubref20_open,Sp_overdubref01_Take,Sp_overdubref01_Get,Sp_overdubref20_PackRoot,stQL,hnl,Sg3,St.updIf,ifc_nil,gt_ifc,go_ifc,ite_self,Option.none_or,Option.some_or];(try (revert hK;intro hK;(repeat' first|(refine And.intro ?_ ?_)|(intro hc;first|cases hc|((try rw [hc]);(try simp only [stH] at hc);(try (exfalso;omega)))));all_goals first|(refine hK _ _ ?_;clear hK K;simp only [stU])|exact hK|omega)))
        all_goals
          refine ⟨k,hg1,nm [],Wk.of ?_⟩
          simp (disch:=omega) only [go_sem,Int.reduceEq,↓reduceIte,reduceCtorEq,Nat.reduceEqDiff,Nat.reduceLT,Nat.reduceLeDiff,Nat.reduceAdd,Nat.reduceSub,Nat.reduceMul,Int.reduceToNat,Int.reduceLE,Int.reduceLT,NF5,Sp_overdubref20_open,Sp_overdubref01_Take,Sp_overdubref01_Get,Sp_overdubref20_PackRoot,stQ1]
  intro n hg1
  have hn59:=hg1.2.1
  refine AW.mx2 (fun q : Int × Int=>stQ2 b n q.1 q.2) (fun q=>(n < 59 ∧ q.1 = (nI b).getD (3 + 2 * n) 0 ∧ q.2 = 4 + 2 * n) ∨ (n = 59 ∧ q.1 = 0 ∧ q.2 = 3 + 2 * n)) ?_ ?_
  · clear hkey hsnocU hwin hw2
    by_cases hn : n < 59
    · have e2 : nth ((nI b).map mB) (3 + 2 * n) = .v (.int .u8 ((nI b).getD (3 + 2 * n) 0)):=nth_B _ _ (by omega)
      have i1 : (3 + 2 * (n : Int)).toNat = 3 + 2 * n:=by omega
      have hmr:=getD_byt hnb (3 + 2 * n)
      have hgoal : (n < 59 ∧ (nI b).getD (3 + 2 * n) 0 = (nI b).getD (3 + 2 * n) 0 ∧ (3 + 2 * (n : Int) + 1) = 4 + 2 * n):=⟨hn,rfl,by omega⟩
      obtain ⟨m,hm⟩ : ∃ m,(nI b).getD (3 + 2 * n) 0 = m:=⟨_,rfl⟩
      rw [hm] at e2 hmr
      repeat' first
 | refine AW.seq ?_
 | refine AW.block ?_
 | refine AW.regl NF5_ok [0,2,3,4,5,7,8,9,11,12,13,14,15,16,17,19,20,21,23,31,53,74,91,124] ?_
 | (refine AW.regq (id:=5) NF5_ok follows bb_overdubref20_Root_5 (by kernel_rfl) [0,2,3,4,5,7,8,9,11,12,13,14,15,16,17,19,20,21,23,31,53,74,91,124] ?_)
 | refine then_n ?_
 | refine then_r ?_
 | refine then_x ?_
 | refine block_x ?_
 | refine block_o (by decide) ?_
 | refine block_n ?_
 | refine block_r ?_
 | refine AW.skip ?_
 | refine AW.ret ?_
 | refine AW.exit ?_
 | refine AW.cond rfl ?_ ?_
 | refine awl_none rfl ?_
 | refine awl_nil2 ?_
 | refine awl_some rfl rfl (Nat.le_of_ble_eq_true rfl) rfl rfl ?_ ?_
 | refine awc_none rfl ?_
 | refine awc_nilq (by kernel_rfl) (by kernel_rfl) ?_
 | (refine fun (hc : _ = _)=>?_;first|cases hc|((try rw [hc]);(try simp only [stH] at hc);(try (exfalso;omega)));(try ((first|show Awl _ _ _ _ _|show Awc _ _ _ _ _ _);simp only [stU])))
 | ((first|refine fun (K : V → List _ → _) hK=>?_|refine fun (_ : V → V)=>?_);simp (disch:=omega) only [go_sem,Int.reduceEq,↓reduceIte,reduceCtorEq,Nat.reduceEqDiff,Nat.reduceLT,Nat.reduceLeDiff,Nat.reduceAdd,Nat.reduceSub,Nat.reduceMul,Int.reduceToNat,Int.reduceLE,Int.reduceLT,NF5,Sp_overdubref20_open,Sp_overdubref01_Take,Sp_overdubref01_Get,Sp_overdubref20_PackRoot,stQ1,hnl,e2,i1,Sg3,St.updIf,ifc_nil,gt_ifc,go_ifc,ite_self,Option.none_or,Option.some_or];(try (revert hK;intro hK;(repeat' first|(refine And.intro ?_ ?_)|(intro hc;first|cases hc|((try rw [hc]);(try simp only [stH] at hc);(try (exfalso;omega)))));all_goals first|(refine hK _ _ ?_;clear hK K;simp only [stU])|exact hK|omega)))
      refine ⟨(m,3 + 2 * (n : Int) + 1),.inl ⟨hn,hm.symm,by dsimp only;omega⟩,nm [],Wk.of ?_⟩
      simp (disch:=omega) only [go_sem,Int.reduceEq,↓reduceIte,reduceCtorEq,Nat.reduceEqDiff,Nat.reduceLT,Nat.reduceLeDiff,Nat.reduceAdd,Nat.reduceSub,Nat.reduceMul,Int.reduceToNat,Int.reduceLE,Int.reduceLT,NF5,Sp_overdubref20_open,Sp_overdubref01_Take,Sp_overdubref01_Get,Sp_overdubref20_PackRoot,stQ2]
    · have hn9 : n = 59:=by omega
      repeat' first
 | refine AW.seq ?_
 | refine AW.block ?_
 | refine AW.regl NF5_ok [0,2,3,4,5,7,8,9,11,12,13,14,15,16,17,19,20,21,23,31,53,74,91,124] ?_
 | (refine AW.regq (id:=5) NF5_ok follows bb_overdubref20_Root_5 (by kernel_rfl) [0,2,3,4,5,7,8,9,11,12,13,14,15,16,17,19,20,21,23,31,53,74,91,124] ?_)
 | refine then_n ?_
 | refine then_r ?_
 | refine then_x ?_
 | refine block_x ?_
 | refine block_o (by decide) ?_
 | refine block_n ?_
 | refine block_r ?_
 | refine AW.skip ?_
 | refine AW.ret ?_
 | refine AW.exit ?_
 | refine AW.cond rfl ?_ ?_
 | refine awl_none rfl ?_
 | refine awl_nil2 ?_
 | refine awl_some rfl rfl (Nat.le_of_ble_eq_true rfl) rfl rfl ?_ ?_
 | refine awc_none rfl ?_
 | refine awc_nilq (by kernel_rfl) (by kernel_rfl) ?_
 | (refine fun (hc : _ = _)=>?_;first|cases hc|((try rw [hc]);(try simp only [stH] at hc);(try (exfalso;omega)));(try ((first|show Awl _ _ _ _ _|show Awc _ _ _ _ _ _);simp only [stU])))
 | ((first|refine fun (K : V → List _ → _) hK=>?_|refine fun (_ : V → V)=>?_);simp (disch:=omega) only [go_sem,Int.reduceEq,↓reduceIte,reduceCtorEq,Nat.reduceEqDiff,Nat.reduceLT,Nat.reduceLeDiff,Nat.reduceAdd,Nat.reduceSub,Nat.reduceMul,Int.reduceToNat,Int.reduceLE,Int.reduceLT,NF5,Sp_overdubref20_open,Sp_overdubref01_Take,Sp_overdubref01_Get,Sp_overdubref20_PackRoot,stQ1,hnl,Sg3,St.updIf,ifc_nil,gt_ifc,go_ifc,ite_self,Option.none_or,Option.some_or];(try (revert hK;intro hK;(repeat' first|(refine And.intro ?_ ?_)|(intro hc;first|cases hc|((try rw [hc]);(try simp only [stH] at hc);(try (exfalso;omega)))));all_goals first|(refine hK _ _ ?_;clear hK K;simp only [stU])|exact hK|omega)))
      refine ⟨(0,3 + 2 * (n : Int)),.inr ⟨hn9,rfl,rfl⟩,nm [],Wk.of ?_⟩
      simp (disch:=omega) only [go_sem,Int.reduceEq,↓reduceIte,reduceCtorEq,Nat.reduceEqDiff,Nat.reduceLT,Nat.reduceLeDiff,Nat.reduceAdd,Nat.reduceSub,Nat.reduceMul,Int.reduceToNat,Int.reduceLE,Int.reduceLT,NF5,Sp_overdubref20_open,Sp_overdubref01_Take,Sp_overdubref01_Get,Sp_overdubref20_PackRoot,stQ2]
  rintro ⟨m,a⟩ hq
  dsimp only at hq ⊢
  refine AW.mx1 (fun R : List Int=>stQ3 b n R) (fun R=>gR3 b n R ∧ R.length ≤ 1000) ?_ ?_
  · clear hkey hsnocU
    rcases hq with ⟨hn,hm,rfl⟩|⟨hn9,rfl,rfl⟩
    · have hmr:=getD_byt hnb (3 + 2 * n)
      rw [← hm] at hmr
      obtain ⟨c,hcn⟩ : ∃ c : Nat,m = c:=⟨m.toNat,by omega⟩
      have hG3 : ∀ k : Nat,k ≤ c → (k = c ∨ 121 < 4 + 2 * n + 2 * k + 2) → gR3 b n (takeI ((nI b).drop (4 + 2 * n)) k):=fun k h1 h2=>.inr ⟨hn,k,by rw [← hm];omega,by rw [← hm];omega,rfl⟩
      subst hcn
      have hsnocR : ∀ k,takeI ((nI b).drop (4 + 2 * n)) (k + 1) = takeI ((nI b).drop (4 + 2 * n)) k ++ [leV (((nI b).drop (4 + 2 * n + 2 * k)).take 2)]:=fun k=>by rw [takeI_snoc,List.drop_drop]
      have hlR : ∀ k,(takeI ((nI b).drop (4 + 2 * n)) k).length = k:=fun k=>takeI_len _ _
      generalize (nI b).drop (4 + 2 * n) = Z at *
      clear hm
      repeat' first
 | refine AW.seq ?_
 | refine AW.block ?_
 | refine AW.regl NF5_ok [0,2,3,4,5,7,8,9,11,12,13,14,15,16,17,19,20,21,23,31,53,74,91,124] ?_
 | (refine AW.regq (id:=5) NF5_ok follows bb_overdubref20_Root_5 (by kernel_rfl) [0,2,3,4,5,7,8,9,11,12,13,14,15,16,17,19,20,21,23,31,53,74,91,124] ?_)
 | refine then_n ?_
 | refine then_r ?_
 | refine then_x ?_
 | refine block_x ?_
 | refine block_o (by decide) ?_
 | refine block_n ?_
 | refine block_r ?_
 | refine AW.skip ?_
 | refine AW.ret ?_
 | refine AW.exit ?_
 | refine AW.cond rfl ?_ ?_
 | refine awl_none rfl ?_
 | refine awl_nil2 ?_
 | refine awl_some rfl rfl (Nat.le_of_ble_eq_true rfl) rfl rfl ?_ ?_
 | refine awc_none rfl ?_
 | refine awc_nilq (by kernel_rfl) (by kernel_rfl) ?_
 | (refine fun (hc : _ = _)=>?_;first|cases hc|((try rw [hc]);(try simp only [stH] at hc);(try (exfalso;omega)));(try ((first|show Awl _ _ _ _ _|show Awc _ _ _ _ _ _);simp only [stU])))
 | ((first|refine fun (K : V → List _ → _) hK=>?_|refine fun (_ : V → V)=>?_);simp (disch:=omega) only [go_sem,Int.reduceEq,↓reduceIte,reduceCtorEq,Nat.reduceEqDiff,Nat.reduceLT,Nat.reduceLeDiff,Nat.reduceAdd,Nat.reduceSub,Nat.reduceMul,Int.reduceToNat,Int.reduceLE,Int.reduceLT,NF5,Sp_overdubref20_open,Sp_overdubref01_Take,Sp_overdubref01_Get,Sp_overdubref20_PackRoot,stQ2,Sg3,St.updIf,ifc_nil,gt_ifc,go_ifc,ite_self,Option.none_or,Option.some_or];(try (revert hK;intro hK;(repeat' first|(refine And.intro ?_ ?_)|(intro hc;first|cases hc|((try rw [hc]);(try simp only [stH] at hc);(try (exfalso;omega)))));all_goals first|(refine hK _ _ ?_;clear hK K;simp only [stU])|exact hK|omega)))
      refine AW.loop_wk (fun k : Nat=>stQM b n c (4 + 2 * n) Z k) (fun k=>k ≤ c ∧ 2 * n + 2 * k ≤ 117) (fun k=>c - k) 0 ⟨by omega,by omega⟩ (fun w0 oa a w hs=>Wk.sr (ρ:=nm []) (Wk.of ?_) (nil_sr 14 101 3 1 rfl (by simp) rfl (by decide) hs)) ?_
      · simp (disch:=omega) only [go_sem,Int.reduceEq,↓reduceIte,reduceCtorEq,Nat.reduceEqDiff,Nat.reduceLT,Nat.reduceLeDiff,Nat.reduceAdd,Nat.reduceSub,Nat.reduceMul,Int.reduceToNat,Int.reduceLE,Int.reduceLT,NF5,Sp_overdubref20_open,Sp_overdubref01_Take,Sp_overdubref01_Get,Sp_overdubref20_PackRoot,stQM]
        all_goals first|done|rfl|exact ⟨rfl,rfl⟩|trace_state
      · rintro k ⟨hk,hkn⟩
        by_cases hk1 : k < c ∧ 4 + 2 * n + 2 * k + 2 ≤ 121
        · obtain ⟨w2b,w2l⟩:=hw2 (4 + 2 * n + 2 * k) (by omega)
          have hwk:=hwin (4 + 2 * n + 2 * k) (by omega)
          have hby : Byt (((nI b).drop (4 + 2 * n + 2 * k)).take 2) = True:=eq_true w2b
          have hget : getOut (((nI b).drop (4 + 2 * n + 2 * k)).take 2) = ⟨.tup [.d (.v (.int .i64 (leV (((nI b).drop (4 + 2 * n + 2 * k)).take 2)))),.d (.v (.bool true))],[]⟩:=by rw [getOut,if_neg (by omega)]
          have i1 : (4 + 2 * (n : Int) + 2 * (k : Int)).toNat = 4 + 2 * n + 2 * k:=by omega
          have i2 : (4 + 2 * (n : Int) + 2 * (k : Int) + 2).toNat = 4 + 2 * n + 2 * k + 2:=by omega
          have hs:=hsnocR k
          have hul:=hlR k
          have hulm : ((takeI Z k).map mI).length = k:=by rw [List.length_map,hul]
          obtain ⟨hk2,hk3⟩:=hk1
          clear hG3 hsnocR hwin hw2 hlR hg1
          generalize leV (((nI b).drop (4 + 2 * n + 2 * k)).take 2) = x at *
          generalize ((nI b).drop (4 + 2 * n + 2 * k)).take 2 = W at *
          repeat' first
 | refine AW.seq ?_
 | refine AW.block ?_
 | refine AW.regl NF5_ok [0,2,3,4,5,7,8,9,11,12,13,14,15,16,17,19,20,21,23,31,53,74,91,124] ?_
 | (refine AW.regq (id:=5) NF5_ok follows bb_overdubref20_Root_5 (by kernel_rfl) [0,2,3,4,5,7,8,9,11,12,13,14,15,16,17,19,20,21,23,31,53,74,91,124] ?_)
 | refine then_n ?_
 | refine then_r ?_
 | refine then_x ?_
 | refine block_x ?_
 | refine block_o (by decide) ?_
 | refine block_n ?_
 | refine block_r ?_
 | refine AW.skip ?_
 | refine AW.ret ?_
 | refine AW.exit ?_
 | refine AW.cond rfl ?_ ?_
 | refine awl_none rfl ?_
 | refine awl_nil2 ?_
 | refine awl_some rfl rfl (Nat.le_of_ble_eq_true rfl) rfl rfl ?_ ?_
 | refine awc_none rfl ?_
 | refine awc_nilq (by kernel_rfl) (by kernel_rfl) ?_
 | (refine fun (hc : _ = _)=>?_;first|cases hc|((try rw [hc]);(try simp only [stH] at hc);(try (exfalso;omega)));(try ((first|show Awl _ _ _ _ _|show Awc _ _ _ _ _ _);simp only [stU])))
 | ((first|refine fun (K : V → List _ → _) hK=>?_|refine fun (_ : V → V)=>?_);simp (disch:=omega) only [go_sem,Int.reduceEq,↓reduceIte,reduceCtorEq,Nat.reduceEqDiff,Nat.reduceLT,Nat.reduceLeDiff,Nat.reduceAdd,Nat.reduceSub,Nat.reduceMul,Int.reduceToNat,Int.reduceLE,Int.reduceLT,NF5,Sp_overdubref20_open,Sp_overdubref01_Take,Sp_overdubref01_Get,Sp_overdubref20_PackRoot,stQM,hnl,i1,i2,hwk,hby,hget,w2l,hul,hulm,mB_inj,Sg3,St.updIf,ifc_nil,gt_ifc,go_ifc,ite_self,Option.none_or,Option.some_or];(try (revert hK;intro hK;(repeat' first|(refine And.intro ?_ ?_)|(intro hc;first|cases hc|((try rw [hc]);(try simp only [stH] at hc);(try (exfalso;omega)))));all_goals first|(refine hK _ _ ?_;clear hK K;simp only [stU])|exact hK|omega)))
          refine ⟨k + 1,by omega,by omega,by omega,nm [(101,106)],Wk.of ?_⟩
          simp (disch:=omega) only [go_sem,Int.reduceEq,↓reduceIte,reduceCtorEq,Nat.reduceEqDiff,Nat.reduceLT,Nat.reduceLeDiff,Nat.reduceAdd,Nat.reduceSub,Nat.reduceMul,Int.reduceToNat,Int.reduceLE,Int.reduceLT,NF5,Sp_overdubref20_open,Sp_overdubref01_Take,Sp_overdubref01_Get,Sp_overdubref20_PackRoot,stQM,hs,snoc_Ir]
          all_goals first|done|rfl|exact ⟨rfl,rfl⟩|(refine ⟨by congr 4;omega,?_⟩;first|rfl|exact ⟨rfl,rfl⟩|exact ⟨rfl,rfl,rfl⟩)|trace_state
        · have hg3:=hG3 k hk (by omega)
          have hul:=hlR k
          repeat' first
 | refine AW.seq ?_
 | refine AW.block ?_
 | refine AW.regl NF5_ok [0,2,3,4,5,7,8,9,11,12,13,14,15,16,17,19,20,21,23,31,53,74,91,124] ?_
 | (refine AW.regq (id:=5) NF5_ok follows bb_overdubref20_Root_5 (by kernel_rfl) [0,2,3,4,5,7,8,9,11,12,13,14,15,16,17,19,20,21,23,31,53,74,91,124] ?_)
 | refine then_n ?_
 | refine then_r ?_
 | refine then_x ?_
 | refine block_x ?_
 | refine block_o (by decide) ?_
 | refine block_n ?_
 | refine block_r ?_
 | refine AW.skip ?_
 | refine AW.ret ?_
 | refine AW.exit ?_
 | refine AW.cond rfl ?_ ?_
 | refine awl_none rfl ?_
 | refine awl_nil2 ?_
 | refine awl_some rfl rfl (Nat.le_of_ble_eq_true rfl) rfl rfl ?_ ?_
 | refine awc_none rfl ?_
 | refine awc_nilq (by kernel_rfl) (by kernel_rfl) ?_
 | (refine fun (hc : _ = _)=>?_;first|cases hc|((try rw [hc]);(try simp only [stH] at hc);(try (exfalso;omega)));(try ((first|show Awl _ _ _ _ _|show Awc _ _ _ _ _ _);simp only [stU])))
 | ((first|refine fun (K : V → List _ → _) hK=>?_|refine fun (_ : V → V)=>?_);simp (disch:=omega) only [go_sem,Int.reduceEq,↓reduceIte,reduceCtorEq,Nat.reduceEqDiff,Nat.reduceLT,Nat.reduceLeDiff,Nat.reduceAdd,Nat.reduceSub,Nat.reduceMul,Int.reduceToNat,Int.reduceLE,Int.reduceLT,NF5,Sp_overdubref20_open,Sp_overdubref01_Take,Sp_overdubref01_Get,Sp_overdubref20_PackRoot,stQM,hnl,Sg3,St.updIf,ifc_nil,gt_ifc,go_ifc,ite_self,Option.none_or,Option.some_or];(try (revert hK;intro hK;(repeat' first|(refine And.intro ?_ ?_)|(intro hc;first|cases hc|((try rw [hc]);(try simp only [stH] at hc);(try (exfalso;omega)))));all_goals first|(refine hK _ _ ?_;clear hK K;simp only [stU])|exact hK|omega)))
          all_goals
            refine ⟨takeI Z k,⟨hg3,by rw [hul];omega⟩,nm [],Wk.of ?_⟩
            simp (disch:=omega) only [go_sem,Int.reduceEq,↓reduceIte,reduceCtorEq,Nat.reduceEqDiff,Nat.reduceLT,Nat.reduceLeDiff,Nat.reduceAdd,Nat.reduceSub,Nat.reduceMul,Int.reduceToNat,Int.reduceLE,Int.reduceLT,NF5,Sp_overdubref20_open,Sp_overdubref01_Take,Sp_overdubref01_Get,Sp_overdubref20_PackRoot,stQ3,hul]
    · repeat' first
 | refine AW.seq ?_
 | refine AW.block ?_
 | refine AW.regl NF5_ok [0,2,3,4,5,7,8,9,11,12,13,14,15,16,17,19,20,21,23,31,53,74,91,124] ?_
 | (refine AW.regq (id:=5) NF5_ok follows bb_overdubref20_Root_5 (by kernel_rfl) [0,2,3,4,5,7,8,9,11,12,13,14,15,16,17,19,20,21,23,31,53,74,91,124] ?_)
 | refine then_n ?_
 | refine then_r ?_
 | refine then_x ?_
 | refine block_x ?_
 | refine block_o (by decide) ?_
 | refine block_n ?_
 | refine block_r ?_
 | refine AW.skip ?_
 | refine AW.ret ?_
 | refine AW.exit ?_
 | refine AW.cond rfl ?_ ?_
 | refine awl_none rfl ?_
 | refine awl_nil2 ?_
 | refine awl_some rfl rfl (Nat.le_of_ble_eq_true rfl) rfl rfl ?_ ?_
 | refine awc_none rfl ?_
 | refine awc_nilq (by kernel_rfl) (by kernel_rfl) ?_
 | (refine fun (hc : _ = _)=>?_;first|cases hc|((try rw [hc]);(try simp only [stH] at hc);(try (exfalso;omega)));(try ((first|show Awl _ _ _ _ _|show Awc _ _ _ _ _ _);simp only [stU])))
 | ((first|refine fun (K : V → List _ → _) hK=>?_|refine fun (_ : V → V)=>?_);simp (disch:=omega) only [go_sem,Int.reduceEq,↓reduceIte,reduceCtorEq,Nat.reduceEqDiff,Nat.reduceLT,Nat.reduceLeDiff,Nat.reduceAdd,Nat.reduceSub,Nat.reduceMul,Int.reduceToNat,Int.reduceLE,Int.reduceLT,NF5,Sp_overdubref20_open,Sp_overdubref01_Take,Sp_overdubref01_Get,Sp_overdubref20_PackRoot,stQ2,Sg3,St.updIf,ifc_nil,gt_ifc,go_ifc,ite_self,Option.none_or,Option.some_or];(try (revert hK;intro hK;(repeat' first|(refine And.intro ?_ ?_)|(intro hc;first|cases hc|((try rw [hc]);(try simp only [stH] at hc);(try (exfalso;omega)))));all_goals first|(refine hK _ _ ?_;clear hK K;simp only [stU])|exact hK|omega)))
      refine AW.loop_wk (fun _ : Unit=>stQM b n 0 (3 + 2 * n) [] 0) (fun _=>True) (fun _=>0) () trivial (fun w0 oa a w hs=>Wk.sr (ρ:=nm []) (Wk.of ?_) (nil_sr 14 101 3 1 rfl (by simp) rfl (by decide) hs)) ?_
      · simp (disch:=omega) only [go_sem,Int.reduceEq,↓reduceIte,reduceCtorEq,Nat.reduceEqDiff,Nat.reduceLT,Nat.reduceLeDiff,Nat.reduceAdd,Nat.reduceSub,Nat.reduceMul,Int.reduceToNat,Int.reduceLE,Int.reduceLT,NF5,Sp_overdubref20_open,Sp_overdubref01_Take,Sp_overdubref01_Get,Sp_overdubref20_PackRoot,stQM]
        all_goals first|done|rfl|exact ⟨rfl,rfl⟩|trace_state
      · rintro _ _
        repeat' first
 | refine AW.seq ?_
 | refine AW.block ?_
 | refine AW.regl NF5_ok [0,2,3,4,5,7,8,9,11,12,13,14,15,16,17,19,20,21,23,31,53,74,91,124] ?_
 | (refine AW.regq (id:=5) NF5_ok follows bb_overdubref20_Root_5 (by kernel_rfl) [0,2,3,4,5,7,8,9,11,12,13,14,15,16,17,19,20,21,23,31,53,74,91,124] ?_)
 | refine then_n ?_
 | refine then_r ?_
 | refine then_x ?_
 | refine block_x ?_
 | refine block_o (by decide) ?_
 | refine block_n ?_
 | refine block_r ?_
 | refine AW.skip ?_
 | refine AW.ret ?_
 | refine AW.exit ?_
 | refine AW.cond rfl ?_ ?_
 | refine awl_none rfl ?_
 | refine awl_nil2 ?_
 | refine awl_some rfl rfl (Nat.le_of_ble_eq_true rfl) rfl rfl ?_ ?_
 | refine awc_none rfl ?_
 | refine awc_nilq (by kernel_rfl) (by kernel_rfl) ?_
 | (refine fun (hc : _ = _)=>?_;first|cases hc|((try rw [hc]);(try simp only [stH] at hc);(try (exfalso;omega)));(try ((first|show Awl _ _ _ _ _|show Awc _ _ _ _ _ _);simp only [stU])))
 | ((first|refine fun (K : V → List _ → _) hK=>?_|refine fun (_ : V → V)=>?_);simp (disch:=omega) only [go_sem,Int.reduceEq,↓reduceIte,reduceCtorEq,Nat.reduceEqDiff,Nat.reduceLT,Nat.reduceLeDiff,Nat.reduceAdd,Nat.reduceSub,Nat.reduceMul,Int.reduceToNat,Int.reduceLE,Int.reduceLT,NF5,Sp_overdubref20_open,Sp_overdubref01_Take,Sp_overdubref01_Get,Sp_overdubref20_PackRoot,stQM,hnl,Sg3,St.updIf,ifc_nil,gt_ifc,go_ifc,ite_self,Option.none_or,Option.some_or];(try (revert hK;intro hK;(repeat' first|(refine And.intro ?_ ?_)|(intro hc;first|cases hc|((try rw [hc]);(try simp only [stH] at hc);(try (exfalso;omega)))));all_goals first|(refine hK _ _ ?_;clear hK K;simp only [stU])|exact hK|omega)))
        refine ⟨[],⟨.inl ⟨hn9,rfl⟩,by simp⟩,nm [],Wk.of ?_⟩
        simp (disch:=omega) only [go_sem,Int.reduceEq,↓reduceIte,reduceCtorEq,Nat.reduceEqDiff,Nat.reduceLT,Nat.reduceLeDiff,Nat.reduceAdd,Nat.reduceSub,Nat.reduceMul,Int.reduceToNat,Int.reduceLE,Int.reduceLT,NF5,Sp_overdubref20_open,Sp_overdubref01_Take,Sp_overdubref01_Get,Sp_overdubref20_PackRoot,stQ3,takeI]
  rintro R ⟨hg3,hR1⟩
  obtain ⟨hok,hsame⟩:=hkey n R hg1 hg3
  have hUl:=uR_len b n
  have hyes : rootOk b → rootOut b = ⟨.tup [.d (.v (.int .i64 (rN b))),.sl 0 1 0 n true,.sl 1 1 0 R.length true,.d (.v (.bool true))],[(0,.row 3 1 ((uR b n).map mI)),(1,.row 3 1 (R.map mI))]⟩:=fun h=>by
    rw [rootOut,if_pos h,← (hsame h).1,← (hsame h).2,hUl]
  have hno : ¬ rootOk b → rootOut b = rootNo:=fun h=>if_neg h
  have hUt : ((uR b n).map mI).take n = (uR b n).map mI:=List.take_of_length_le (by rw [List.length_map,hUl];omega)
  have hRt : (R.map mI).take R.length = R.map mI:=List.take_of_length_le (by simp)
  clear hkey hsame hg1 hg3 hq hsnocU hwin hw2
  obtain ⟨U,hU⟩ : ∃ U,uR b n = U:=⟨_,rfl⟩
  obtain ⟨w,hw⟩ : ∃ w,rN b = w:=⟨_,rfl⟩
  rw [hU] at hUl hUt
  rw [hU,hw] at hok hyes
  by_cases hm : mayR w U R
  case neg =>
    have hz:=hno fun h=>hm (hok.2 h).1
    have hp : packROut w U R = ⟨.tup [.nil,.d (.v (.bool false))],[]⟩:=if_neg hm
    clear hm hok hyes hno
    repeat' first
 | refine AW.seq ?_
 | refine AW.block ?_
 | refine AW.regl NF5_ok [0,2,3,4,5,7,8,9,11,12,13,14,15,16,17,19,20,21,23,31,53,74,91,124] ?_
 | (refine AW.regq (id:=5) NF5_ok follows bb_overdubref20_Root_5 (by kernel_rfl) [0,2,3,4,5,7,8,9,11,12,13,14,15,16,17,19,20,21,23,31,53,74,91,124] ?_)
 | refine then_n ?_
 | refine then_r ?_
 | refine then_x ?_
 | refine block_x ?_
 | refine block_o (by decide) ?_
 | refine block_n ?_
 | refine block_r ?_
 | refine AW.skip ?_
 | refine AW.ret ?_
 | refine AW.exit ?_
 | refine AW.cond rfl ?_ ?_
 | refine awl_none rfl ?_
 | refine awl_nil2 ?_
 | refine awl_some rfl rfl (Nat.le_of_ble_eq_true rfl) rfl rfl ?_ ?_
 | refine awc_none rfl ?_
 | refine awc_nilq (by kernel_rfl) (by kernel_rfl) ?_
 | (refine fun (hc : _ = _)=>?_;first|cases hc|((try rw [hc]);(try simp only [stH] at hc);(try (exfalso;omega)));(try ((first|show Awl _ _ _ _ _|show Awc _ _ _ _ _ _);simp only [stU])))
 | ((first|refine fun (K : V → List _ → _) hK=>?_|refine fun (_ : V → V)=>?_);simp (disch:=omega) only [go_sem,Int.reduceEq,↓reduceIte,reduceCtorEq,Nat.reduceEqDiff,Nat.reduceLT,Nat.reduceLeDiff,Nat.reduceAdd,Nat.reduceSub,Nat.reduceMul,Int.reduceToNat,Int.reduceLE,Int.reduceLT,NF5,Sp_overdubref20_open,Sp_overdubref01_Take,Sp_overdubref01_Get,Sp_overdubref20_PackRoot,stQ3,hU,hw,hUl,hUt,hRt,hp,mI_inj,Sg3,St.updIf,ifc_nil,gt_ifc,go_ifc,ite_self,Option.none_or,Option.some_or];(try (revert hK;intro hK;(repeat' first|(refine And.intro ?_ ?_)|(intro hc;first|cases hc|((try rw [hc]);(try simp only [stH] at hc);(try (exfalso;omega)))));all_goals first|(refine hK _ _ ?_;clear hK K;simp only [stU])|exact hK|omega)))
    (refine Ends.of (nm []) (by first|exact .inl rfl|exact .inr rfl) ?_;simp (disch:=omega) only [go_sem,Int.reduceEq,↓reduceIte,reduceCtorEq,Nat.reduceEqDiff,Nat.reduceLT,Nat.reduceLeDiff,Nat.reduceAdd,Nat.reduceSub,Nat.reduceMul,Int.reduceToNat,Int.reduceLE,Int.reduceLT,NF5,Sp_overdubref20_open,Sp_overdubref01_Take,Sp_overdubref01_Get,Sp_overdubref20_PackRoot,hz,rootNo])
  obtain ⟨P,eP⟩ : ∃ P,rootP w U R = P:=⟨_,rfl⟩
  have hp : packROut w U R = ⟨.tup [.sl 0 1 0 128 true,.d (.v (.bool true))],[(0,.row 5 1 (P.map mB))]⟩:=by rw [packROut,if_pos hm,eP]
  have hpb : Byt P:=eP ▸ rootP_byt _ _ _
  have hpl : P.length = 128:=eP ▸ rootP_len _ _ _
  have hpt : (P.map mB).take 128 = P.map mB:=List.take_of_length_le (by rw [List.length_map,hpl];omega)
  have hstr:=byt_strnN hpb hb
  by_cases he : P = b
  · have hz:=hyes (hok.1 ⟨hm,eP.trans he⟩)
    have hd : decide (P = b) = true:=decide_eq_true he
    clear hm he eP hok hyes hno
    repeat' first
 | refine AW.seq ?_
 | refine AW.block ?_
 | refine AW.regl NF5_ok [0,2,3,4,5,7,8,9,11,12,13,14,15,16,17,19,20,21,23,31,53,74,91,124] ?_
 | (refine AW.regq (id:=5) NF5_ok follows bb_overdubref20_Root_5 (by kernel_rfl) [0,2,3,4,5,7,8,9,11,12,13,14,15,16,17,19,20,21,23,31,53,74,91,124] ?_)
 | refine then_n ?_
 | refine then_r ?_
 | refine then_x ?_
 | refine block_x ?_
 | refine block_o (by decide) ?_
 | refine block_n ?_
 | refine block_r ?_
 | refine AW.skip ?_
 | refine AW.ret ?_
 | refine AW.exit ?_
 | refine AW.cond rfl ?_ ?_
 | refine awl_none rfl ?_
 | refine awl_nil2 ?_
 | refine awl_some rfl rfl (Nat.le_of_ble_eq_true rfl) rfl rfl ?_ ?_
 | refine awc_none rfl ?_
 | refine awc_nilq (by kernel_rfl) (by kernel_rfl) ?_
 | (refine fun (hc : _ = _)=>?_;first|cases hc|((try rw [hc]);(try simp only [stH] at hc);(try (exfalso;omega)));(try ((first|show Awl _ _ _ _ _|show Awc _ _ _ _ _ _);simp only [stU])))
 | ((first|refine fun (K : V → List _ → _) hK=>?_|refine fun (_ : V → V)=>?_);simp (disch:=omega) only [go_sem,Int.reduceEq,↓reduceIte,reduceCtorEq,Nat.reduceEqDiff,Nat.reduceLT,Nat.reduceLeDiff,Nat.reduceAdd,Nat.reduceSub,Nat.reduceMul,Int.reduceToNat,Int.reduceLE,Int.reduceLT,NF5,Sp_overdubref20_open,Sp_overdubref01_Take,Sp_overdubref01_Get,Sp_overdubref20_PackRoot,stQ3,hU,hw,hUl,hUt,hRt,hp,hpl,hpt,hstr,hd,mB_inj,mI_inj,Sg3,St.updIf,ifc_nil,gt_ifc,go_ifc,ite_self,Option.none_or,Option.some_or];(try (revert hK;intro hK;(repeat' first|(refine And.intro ?_ ?_)|(intro hc;first|cases hc|((try rw [hc]);(try simp only [stH] at hc);(try (exfalso;omega)))));all_goals first|(refine hK _ _ ?_;clear hK K;simp only [stU])|exact hK|omega)))
    (refine Ends.of (nm [(0,100),(1,101)]) (by first|exact .inl rfl|exact .inr rfl) ?_;simp (disch:=omega) only [go_sem,Int.reduceEq,↓reduceIte,reduceCtorEq,Nat.reduceEqDiff,Nat.reduceLT,Nat.reduceLeDiff,Nat.reduceAdd,Nat.reduceSub,Nat.reduceMul,Int.reduceToNat,Int.reduceLE,Int.reduceLT,NF5,Sp_overdubref20_open,Sp_overdubref01_Take,Sp_overdubref01_Get,Sp_overdubref20_PackRoot,hz])
  · have hz:=hno fun h=>he (eP.symm.trans (hok.2 h).2)
    have hd : decide (P = b) = false:=decide_eq_false he
    clear hm he eP hok hyes hno
    repeat' first
 | refine AW.seq ?_
 | refine AW.block ?_
 | refine AW.regl NF5_ok [0,2,3,4,5,7,8,9,11,12,13,14,15,16,17,19,20,21,23,31,53,74,91,124] ?_
 | (refine AW.regq (id:=5) NF5_ok follows bb_overdubref20_Root_5 (by kernel_rfl) [0,2,3,4,5,7,8,9,11,12,13,14,15,16,17,19,20,21,23,31,53,74,91,124] ?_)
 | refine then_n ?_
 | refine then_r ?_
 | refine then_x ?_
 | refine block_x ?_
 | refine block_o (by decide) ?_
 | refine block_n ?_
 | refine block_r ?_
 | refine AW.skip ?_
 | refine AW.ret ?_
 | refine AW.exit ?_
 | refine AW.cond rfl ?_ ?_
 | refine awl_none rfl ?_
 | refine awl_nil2 ?_
 | refine awl_some rfl rfl (Nat.le_of_ble_eq_true rfl) rfl rfl ?_ ?_
 | refine awc_none rfl ?_
 | refine awc_nilq (by kernel_rfl) (by kernel_rfl) ?_
 | (refine fun (hc : _ = _)=>?_;first|cases hc|((try rw [hc]);(try simp only [stH] at hc);(try (exfalso;omega)));(try ((first|show Awl _ _ _ _ _|show Awc _ _ _ _ _ _);simp only [stU])))
 | ((first|refine fun (K : V → List _ → _) hK=>?_|refine fun (_ : V → V)=>?_);simp (disch:=omega) only [go_sem,Int.reduceEq,↓reduceIte,reduceCtorEq,Nat.reduceEqDiff,Nat.reduceLT,Nat.reduceLeDiff,Nat.reduceAdd,Nat.reduceSub,Nat.reduceMul,Int.reduceToNat,Int.reduceLE,Int.reduceLT,NF5,Sp_overdubref20_open,Sp_overdubref01_Take,Sp_overdubref01_Get,Sp_overdubref20_PackRoot,stQ3,hU,hw,hUl,hUt,hRt,hp,hpl,hpt,hstr,hd,mB_inj,mI_inj,Sg3,St.updIf,ifc_nil,gt_ifc,go_ifc,ite_self,Option.none_or,Option.some_or];(try (revert hK;intro hK;(repeat' first|(refine And.intro ?_ ?_)|(intro hc;first|cases hc|((try rw [hc]);(try simp only [stH] at hc);(try (exfalso;omega)))));all_goals first|(refine hK _ _ ?_;clear hK K;simp only [stU])|exact hK|omega)))
    (refine Ends.of (nm []) (by first|exact .inl rfl|exact .inr rfl) ?_;simp (disch:=omega) only [go_sem,Int.reduceEq,↓reduceIte,reduceCtorEq,Nat.reduceEqDiff,Nat.reduceLT,Nat.reduceLeDiff,Nat.reduceAdd,Nat.reduceSub,Nat.reduceMul,Int.reduceToNat,Int.reduceLE,Int.reduceLT,NF5,Sp_overdubref20_open,Sp_overdubref01_Take,Sp_overdubref01_Get,Sp_overdubref20_PackRoot,hz,rootNo])
theorem ent_overdubref20_Root : Ent Try.prog 60:=⟨_,Try.func60,rfl,by decide⟩
end Go.Proofs.Ytigkcigoiinkpaa.Am
