import Derived.Test.YtleahjfgedfgmaaProg
import Derived.KernelRfl
import Derived.RowKit
import Derived.Laws.BitsLemmas
import Derived.Test.YtleahjfgedfgmaaZZA
section
set_option linter.unusedVariables false
namespace Go.Proofs.Ytleahjfgedfgmaa.Am
open Go Go.RowKit Go.Proofs
def Es (t : TypeId) (n : Nat) : Prop:=eqSN Try.prog t = some n
theorem Es_ok : ∀ t n,Es t n → EqS Try.prog t n:=fun _ _ h=>eqSN_ok h
@[go_sem] theorem x_ar22 : ar Try.prog 22 = none:=by kernel_rfl
@[go_sem] theorem x_ar39 : ar Try.prog 39 = none:=by kernel_rfl
@[go_sem] theorem x_ar40 : ar Try.prog 40 = none:=by kernel_rfl
@[go_sem] theorem x_ar57 : ar Try.prog 57 = none:=by kernel_rfl
@[go_sem] theorem x_ar63 : ar Try.prog 63 = none:=by kernel_rfl
@[go_sem] theorem x_ar64 : ar Try.prog 64 = none:=by kernel_rfl
@[go_sem] theorem x_bt3 : isBoolT Try.prog 3 = false:=by kernel_rfl
@[go_sem] theorem x_bt4 : isBoolT Try.prog 4 = true:=by kernel_rfl
@[go_sem] theorem x_bt25 : isBoolT Try.prog 25 = false:=by kernel_rfl
@[go_sem] theorem x_bt31 : isBoolT Try.prog 31 = false:=by kernel_rfl
@[go_sem] theorem x_bt32 : isBoolT Try.prog 32 = false:=by kernel_rfl
@[go_sem] theorem x_el3 : el Try.prog 3 = none:=by kernel_rfl
@[go_sem] theorem x_el22 : el Try.prog 22 = some (25,5,40):=by kernel_rfl
@[go_sem] theorem x_el39 : el Try.prog 39 = some (3,1,8):=by kernel_rfl
@[go_sem] theorem x_el40 : el Try.prog 40 = some (42,3,72):=by kernel_rfl
@[go_sem] theorem x_el57 : el Try.prog 57 = some (29,4,48):=by kernel_rfl
@[go_sem] theorem x_el63 : el Try.prog 63 = some (31,1,8):=by kernel_rfl
@[go_sem] theorem x_el64 : el Try.prog 64 = some (22,1,24):=by kernel_rfl
@[go_sem] theorem x_es25 : Es 25 5 = True:=eq_true (by show eqSN Try.prog 25 = some 5;kernel_rfl)
@[go_sem] theorem x_fo25_0 : fo Try.prog 25 0 = some (0,3):=by kernel_rfl
@[go_sem] theorem x_fo25_1 : fo Try.prog 25 1 = some (1,3):=by kernel_rfl
@[go_sem] theorem x_fo25_2 : fo Try.prog 25 2 = some (2,3):=by kernel_rfl
@[go_sem] theorem x_fo25_3 : fo Try.prog 25 3 = some (3,3):=by kernel_rfl
@[go_sem] theorem x_fo25_4 : fo Try.prog 25 4 = some (4,3):=by kernel_rfl
@[go_sem] theorem x_fo29_0 : fo Try.prog 29 0 = some (0,3):=by kernel_rfl
@[go_sem] theorem x_fo29_1 : fo Try.prog 29 1 = some (1,3):=by kernel_rfl
@[go_sem] theorem x_fo29_2 : fo Try.prog 29 2 = some (2,3):=by kernel_rfl
@[go_sem] theorem x_fo29_3 : fo Try.prog 29 3 = some (3,22):=by kernel_rfl
@[go_sem] theorem x_fo42_0 : fo Try.prog 42 0 = some (0,22):=by kernel_rfl
@[go_sem] theorem x_fo42_1 : fo Try.prog 42 1 = some (1,39):=by kernel_rfl
@[go_sem] theorem x_fo42_2 : fo Try.prog 42 2 = some (2,40):=by kernel_rfl
@[go_sem] theorem x_fo73_0 : fo Try.prog 73 0 = some (0,22):=by kernel_rfl
@[go_sem] theorem x_fo73_1 : fo Try.prog 73 1 = some (1,42):=by kernel_rfl
@[go_sem] theorem x_ik3 : ik Try.prog 3 = some Go.IntKind.i64:=by kernel_rfl
@[go_sem] theorem x_ik74 : ik Try.prog 74 = some Go.IntKind.u64:=by kernel_rfl
@[go_sem] theorem x_pl25 : pl Try.prog 25 = some [(0,1),(1,1),(2,1),(3,1),(4,1)]:=by kernel_rfl
@[go_sem] theorem x_pl29 : pl Try.prog 29 = some [(0,1),(1,1),(2,1),(3,1)]:=by kernel_rfl
@[go_sem] theorem x_pl42 : pl Try.prog 42 = some [(0,1),(1,1),(2,1)]:=by kernel_rfl
@[go_sem] theorem x_pl73 : pl Try.prog 73 = some [(0,1),(1,3)]:=by kernel_rfl
@[go_sem] theorem x_pt3 : isPtrT Try.prog 3 = false:=by kernel_rfl
@[go_sem] theorem x_pt4 : isPtrT Try.prog 4 = false:=by kernel_rfl
@[go_sem] theorem x_pt25 : isPtrT Try.prog 25 = false:=by kernel_rfl
@[go_sem] theorem x_pt31 : isPtrT Try.prog 31 = true:=by kernel_rfl
@[go_sem] theorem x_pt32 : isPtrT Try.prog 32 = false:=by kernel_rfl
@[go_sem] theorem x_slt22 : slT Try.prog 22 = true:=by kernel_rfl
@[go_sem] theorem x_slt39 : slT Try.prog 39 = true:=by kernel_rfl
@[go_sem] theorem x_slt40 : slT Try.prog 40 = true:=by kernel_rfl
@[go_sem] theorem x_slt57 : slT Try.prog 57 = true:=by kernel_rfl
@[go_sem] theorem x_slt63 : slT Try.prog 63 = true:=by kernel_rfl
@[go_sem] theorem x_slt64 : slT Try.prog 64 = true:=by kernel_rfl
@[go_sem] theorem x_st74 : strT Try.prog 74 = false:=by kernel_rfl
@[go_sem] theorem x_tk3 : tk Try.prog 3 = some (false,1):=by kernel_rfl
@[go_sem] theorem x_tk22 : tk Try.prog 22 = some (false,1):=by kernel_rfl
@[go_sem] theorem x_tk25 : tk Try.prog 25 = some (true,5):=by kernel_rfl
@[go_sem] theorem x_tk29 : tk Try.prog 29 = some (true,4):=by kernel_rfl
@[go_sem] theorem x_tk31 : tk Try.prog 31 = some (false,1):=by kernel_rfl
@[go_sem] theorem x_tk39 : tk Try.prog 39 = some (false,1):=by kernel_rfl
@[go_sem] theorem x_tk40 : tk Try.prog 40 = some (false,1):=by kernel_rfl
@[go_sem] theorem x_tk42 : tk Try.prog 42 = some (true,3):=by kernel_rfl
@[go_sem] theorem x_tk73 : tk Try.prog 73 = some (true,4):=by kernel_rfl
@[go_sem] theorem x_un3 : (Try.prog.underlying 3).isSome = true:=by kernel_rfl
@[go_sem] theorem x_zc3 : zc Try.prog 3 = some [Go.Value.int Go.IntKind.i64 0]:=by kernel_rfl
@[go_sem] theorem x_zc22 : zc Try.prog 22 = some [Go.Value.slice none 0 0]:=by kernel_rfl
@[go_sem] theorem x_zc25 : zc Try.prog 25 = some [Go.Value.int Go.IntKind.i64 0,Go.Value.int Go.IntKind.i64 0,Go.Value.int Go.IntKind.i64 0,Go.Value.int Go.IntKind.i64 0,Go.Value.int Go.IntKind.i64 0]:=by kernel_rfl
@[go_sem] theorem x_zc29 : zc Try.prog 29 = some [Go.Value.int Go.IntKind.i64 0,Go.Value.int Go.IntKind.i64 0,Go.Value.int Go.IntKind.i64 0,Go.Value.slice none 0 0]:=by kernel_rfl
@[go_sem] theorem x_zc31 : zc Try.prog 31 = some [Go.Value.pointer none]:=by kernel_rfl
@[go_sem] theorem x_zc42 : zc Try.prog 42 = some [Go.Value.slice none 0 0,Go.Value.slice none 0 0,Go.Value.slice none 0 0]:=by kernel_rfl
@[go_sem] theorem x_zc73 : zc Try.prog 73 = some [Go.Value.slice none 0 0,Go.Value.slice none 0 0,Go.Value.slice none 0 0,Go.Value.slice none 0 0]:=by kernel_rfl
end Go.Proofs.Ytleahjfgedfgmaa.Am
end
section
set_option linter.unusedVariables false
set_option linter.unusedSimpArgs false
set_option maxRecDepth 10000
set_option maxHeartbeats 0
namespace Go.Proofs.Ytleahjfgedfgmaa.Am
open Go Go.RowKit Go.Proofs
theorem follows : Try.prog.follows .mixedOrders = true:=by kernel_rfl
theorem vb_eq {a b : Bool} (h : a = true ↔ b = true) : V.d (D.v (.bool a)) = V.d (D.v (.bool b)):=by rw [Bool.eq_iff_iff.mpr h]
noncomputable def E0 : Env:=⟨Try.prog,fun f ds out=>False,Es,fun _=>false,fun f vs lent out=>False,fun f=>none,fun f=>false,false,fun f=>none⟩
theorem E0_sp : ∀ f ds out,E0.Sp f ds out → Ent E0.P f ∧ Good E0.P f (fun a b=>a = ds ∧ b = out):=fun _ _ _ h=>h.elim
theorem E0_sm : ∀ f vs lent out,E0.Sm f vs lent out → Ent E0.P f ∧ GoodM E0.P f (fun a l b=>a = vs ∧ l = lent ∧ b = out):=fun _ _ _ _ h=>h.elim
theorem E0_at : ∀ f k,E0.At f = some k → AtomOk E0.P f k:=fun _ _ h=>nomatch h
theorem E0_ok : E0.Ok:=⟨E0_sp,Es_ok,E0_sm,E0_at⟩
def within (v n : Int) : Int:=if n < 1 then 0 else if v.tmod n < 0 then v.tmod n + n else v.tmod n
def Sp_overdubkeep_Within (ds : List D) (out : Out) : Prop:=∃ v n : Int,ds = [.v (.int .i64 v),.v (.int .i64 n)] ∧ n < 9223372036854775808 ∧ out = ⟨.d (.v (.int .i64 (within v n))),[]⟩
theorem good_overdubkeep_Within : Good Try.prog 14 Sp_overdubkeep_Within:=by
  refine good_body (E:=E0) (nt:=17) (rs:=#[.tmp 4]) Try.func14 rfl rfl rfl ?_
  rintro ds out ⟨v,n,rfl,hn,rfl⟩
  refine ⟨by simp,?_⟩
  have hm : ∀ h : ¬ n < 1,v.tmod n < n ∧ - n < v.tmod n:=fun h=>⟨by have:=Int.tmod_lt_of_pos v (show 0 < n by omega);omega,by have:=Int.lt_tmod_of_pos v (show 0 < n by omega);omega⟩
  by_cases h1 : n < 1
  · repeat' first
 | refine AW.seq ?_
 | refine AW.block ?_
 | refine AW.regl E0_ok [0,1,4,5,7,12] ?_
 | refine then_n ?_
 | refine then_r ?_
 | refine then_x ?_
 | refine block_x ?_
 | refine block_o (by decide) ?_
 | refine block_n ?_
 | refine block_r ?_
 | refine AW.skip ?_
 | refine AW.ret ?_
 | refine AW.exit ?_
 | refine AW.cond rfl ?_ ?_
 | refine awl_none rfl ?_
 | refine awl_nil2 ?_
 | (refine fun (hc : _ = _)=>?_;first|cases hc|((try rw [hc]);(try simp only [stH] at hc);(try (exfalso;omega)));(try (show Awl _ _ _ _ _;simp only [stU])))
 | ((first|refine fun (K : V → List _ → _) hK=>?_|refine fun (_ : V → V)=>?_);simp (maxSteps:=1000000) (disch:=omega) only [go_sem,Int.reduceEq,↓reduceIte,reduceCtorEq,Nat.reduceEqDiff,Nat.reduceLT,Nat.reduceLeDiff,Nat.reduceAdd,Nat.reduceSub,Nat.reduceMul,Int.reduceToNat,Int.reduceLE,Int.reduceLT,E0];(try (revert hK;intro hK;(repeat' first|(refine And.intro ?_ ?_)|(intro hc;first|cases hc|((try rw [hc]);(try simp only [stH] at hc);(try (exfalso;omega)))));all_goals first|(refine hK _ _ ?_;clear hK K;simp only [stU])|exact hK|omega)))
    (refine Ends.of (nm []) (by first|exact .inl rfl|exact .inr rfl) ?_;simp (maxSteps:=1000000) (disch:=omega) only [go_sem,Int.reduceEq,↓reduceIte,reduceCtorEq,Nat.reduceEqDiff,Nat.reduceLT,Nat.reduceLeDiff,Nat.reduceAdd,Nat.reduceSub,Nat.reduceMul,Int.reduceToNat,Int.reduceLE,Int.reduceLT,E0,within,h1])
  · have:=hm h1
    repeat' first
 | refine AW.seq ?_
 | refine AW.block ?_
 | refine AW.regl E0_ok [0,1,4,5,7,12] ?_
 | refine then_n ?_
 | refine then_r ?_
 | refine then_x ?_
 | refine block_x ?_
 | refine block_o (by decide) ?_
 | refine block_n ?_
 | refine block_r ?_
 | refine AW.skip ?_
 | refine AW.ret ?_
 | refine AW.exit ?_
 | refine AW.cond rfl ?_ ?_
 | refine awl_none rfl ?_
 | refine awl_nil2 ?_
 | (refine fun (hc : _ = _)=>?_;first|cases hc|((try rw [hc]);(try simp only [stH] at hc);(try (exfalso;omega)));(try (show Awl _ _ _ _ _;simp only [stU])))
 | ((first|refine fun (K : V → List _ → _) hK=>?_|refine fun (_ : V → V)=>?_);simp (maxSteps:=1000000) (disch:=omega) only [go_sem,Int.reduceEq,↓reduceIte,reduceCtorEq,Nat.reduceEqDiff,Nat.reduceLT,Nat.reduceLeDiff,Nat.reduceAdd,Nat.reduceSub,Nat.reduceMul,Int.reduceToNat,Int.reduceLE,Int.reduceLT,E0];(try (revert hK;intro hK;(repeat' first|(refine And.intro ?_ ?_)|(intro hc;first|cases hc|((try rw [hc]);(try simp only [stH] at hc);(try (exfalso;omega)))));all_goals first|(refine hK _ _ ?_;clear hK K;simp only [stU])|exact hK|omega)))
    · (refine Ends.of (nm []) (by first|exact .inl rfl|exact .inr rfl) ?_;simp (maxSteps:=1000000) (disch:=omega) only [go_sem,Int.reduceEq,↓reduceIte,reduceCtorEq,Nat.reduceEqDiff,Nat.reduceLT,Nat.reduceLeDiff,Nat.reduceAdd,Nat.reduceSub,Nat.reduceMul,Int.reduceToNat,Int.reduceLE,Int.reduceLT,E0,within,h1,hc])
    · (refine Ends.of (nm []) (by first|exact .inl rfl|exact .inr rfl) ?_;simp (maxSteps:=1000000) (disch:=omega) only [go_sem,Int.reduceEq,↓reduceIte,reduceCtorEq,Nat.reduceEqDiff,Nat.reduceLT,Nat.reduceLeDiff,Nat.reduceAdd,Nat.reduceSub,Nat.reduceMul,Int.reduceToNat,Int.reduceLE,Int.reduceLT,E0,within,h1,Int.not_lt.mpr,hc])
theorem ent_overdubkeep_Within : Ent Try.prog 14:=⟨_,Try.func14,rfl,by decide⟩
def putB (n : Int) (m : Nat) : List Int:=(List.range m).map fun i=>n / 256 ^ i % 256
def putK (n : Int) (m k : Nat) : List Int:=(List.range m).map fun i=>if i < k then n / 256 ^ i % 256 else 0
theorem putK_len (n : Int) (m k : Nat) : (putK n m k).length = m:=by simp [putK]
theorem putB_len (n : Int) (m : Nat) : (putB n m).length = m:=by simp [putB]
theorem putK_zero (n : Int) (m : Nat) : List.replicate m 0 = putK n m 0:=by
  apply List.ext_getElem?
  intro i
  by_cases h : i < m <;> simp [putK,h]
theorem putK_all (n : Int) (m : Nat) : putK n m m = putB n m:=by
  apply List.ext_getElem?
  intro i
  by_cases h : i < m <;> simp [putK,putB,h]
theorem putK_set (n : Int) (m k : Nat) : (putK n m k).set k (n / 256 ^ k % 256) = putK n m (k + 1):=by
  apply List.ext_getElem?
  intro i
  rw [List.getElem?_set]
  by_cases h : i < m
  · by_cases hk : k = i
    · subst hk;simp [putK,h]
    · have e : (i < k + 1) = (i < k):=by simp only [eq_iff_iff];omega
      simp [putK,h,hk,e]
  · by_cases hk : k = i
    · subst hk;simp [putK,h]
    · simp [putK,h,hk]
theorem wrap_u64_id (x : Int) (h0 : 0 ≤ x) (h1 : x < 18446744073709551616) : IntKind.u64.wrap x = x:=by rw [wrap_u64];omega
theorem shr8 (n : Int) (k : Nat) : n / 256 ^ k / 2 ^ 8 = n / 256 ^ (k + 1):=by
  rw [Int.ediv_ediv_of_nonneg (Int.pow_nonneg (by decide)),Int.pow_succ]
  rfl
def wd (w : Int) : Nat:=(max 0 (min w 8)).toNat
end Go.Proofs.Ytleahjfgedfgmaa.Am
end
section
namespace Go.Proofs.Ytleahjfgedfgmaa.Am
open Go Go.RowKit
set_option linter.unusedVariables false
set_option linter.unusedSimpArgs false
def leB : Nat → Int → List Int
  | 0,_=>[]
  | w + 1,n=>n % 256 :: leB w (n / 256)
def leV : List Int → Int
  | []=>0
  | b :: l=>b + 256 * leV l
def Byt (l : List Int) : Prop:=∀ x ∈ l,0 ≤ x ∧ x < 256
theorem leB_length : ∀ w n,(leB w n).length = w
  | 0,_=>rfl
  | w + 1,n=>by simp [leB,leB_length w]
theorem leB_byt : ∀ w n,Byt (leB w n)
  | 0,_=>by intro x h;simp [leB] at h
  | w + 1,n=>by
    intro x h
    simp only [leB,List.mem_cons] at h
    rcases h with h|h
    · subst h;omega
    · exact leB_byt w _ x h
theorem byt_nil : Byt []:=fun x h=>by simp at h
theorem byt_cons {b : Int} {l : List Int} (hb : 0 ≤ b ∧ b < 256) (hl : Byt l) : Byt (b :: l):=by
  intro x h
  rcases List.mem_cons.1 h with h|h
  · subst h;exact hb
  · exact hl x h
theorem byt_append {l m : List Int} (h : Byt l) (k : Byt m) : Byt (l ++ m):=by
  intro x hx
  rcases List.mem_append.1 hx with hx|hx
  · exact h x hx
  · exact k x hx
theorem byt_take {l : List Int} (h : Byt l) (n : Nat) : Byt (l.take n):=fun x hx=>h x (List.mem_of_mem_take hx)
theorem byt_drop {l : List Int} (h : Byt l) (n : Nat) : Byt (l.drop n):=fun x hx=>h x (List.mem_of_mem_drop hx)
theorem byt_replicate (n : Nat) : Byt (List.replicate n 0):=fun x hx=>by rw [List.eq_of_mem_replicate hx];omega
theorem byt_wf' {l : List Int} (h : ∀ x ∈ l,(Lit.int .u8 x).wf = true) : Byt l:=by
  intro x hx
  have:=h x hx
  simp [Lit.wf,IntKind.min,IntKind.max,IntKind.bits,IntKind.signed] at this
  omega
theorem i64_wf {x : Int} (h : (Lit.int .i64 x).wf = true) : -9223372036854775808 ≤ x ∧ x ≤ 9223372036854775807:=by
  simp [Lit.wf,IntKind.min,IntKind.max,IntKind.bits,IntKind.signed] at h
  omega
theorem p256_pos (w : Nat) : (0 : Int) < 256 ^ w:=Int.pow_pos (by omega)
theorem p256_succ (w : Nat) : (256 : Int) ^ (w + 1) = 256 * 256 ^ w:=by rw [Int.pow_succ,Int.mul_comm]
theorem p256_mono {a b : Nat} (h : a ≤ b) : (256 : Int) ^ a ≤ 256 ^ b:=by
  obtain ⟨d,rfl⟩:=Nat.exists_eq_add_of_le h
  rw [Int.pow_add]
  have h1:=p256_pos a
  have h2:=p256_pos d
  have:=Int.mul_le_mul_of_nonneg_left (show (1 : Int) ≤ 256 ^ d by omega) (Int.le_of_lt h1)
  omega
theorem leV_bound {l : List Int} (h : Byt l) : 0 ≤ leV l ∧ leV l < 256 ^ l.length:=by
  induction l with
  | nil=>simp [leV]
  | cons b l ih =>
    obtain ⟨h1,h2⟩:=ih (fun x hx=>h x (List.mem_cons_of_mem _ hx))
    have hb:=h b (List.mem_cons_self ..)
    simp only [leV,List.length_cons,p256_succ]
    omega
theorem leV_leB : ∀ (w : Nat) (n : Int),0 ≤ n → leV (leB w n) = n % 256 ^ w
  | 0,n,_=>by simp [leB,leV,Int.emod_one]
  | w + 1,n,h=>by
    have ih:=leV_leB w (n / 256) (by omega)
    simp only [leB,leV,ih,p256_succ]
    have hp:=p256_pos w
    have e1 : n / 256 % 256 ^ w = n / 256 - 256 ^ w * (n / (256 * 256 ^ w)):=by
      rw [Int.emod_def,Int.ediv_ediv_of_nonneg (by omega)]
    have e2 : n % (256 * 256 ^ w) = n - 256 * 256 ^ w * (n / (256 * 256 ^ w)):=Int.emod_def ..
    rw [e1,e2,Int.mul_assoc]
    generalize 256 ^ w * (n / (256 * 256 ^ w)) = z
    omega
theorem leV_leB_small {w : Nat} {n : Int} (h : 0 ≤ n) (h1 : n < 256 ^ w) : leV (leB w n) = n:=by
  rw [leV_leB w n h,Int.emod_eq_of_lt h h1]
theorem leB_leV {l : List Int} (h : Byt l) : leB l.length (leV l) = l:=by
  induction l with
  | nil=>rfl
  | cons b l ih =>
    have hb:=h b (List.mem_cons_self ..)
    have ih:=ih (fun x hx=>h x (List.mem_cons_of_mem _ hx))
    simp only [List.length_cons,leB,leV]
    rw [show (b + 256 * leV l) % 256 = b by omega,show (b + 256 * leV l) / 256 = leV l by omega,ih]
theorem leB_inj {w : Nat} {a b : Int} (ha : 0 ≤ a) (ha1 : a < 256 ^ w) (hb : 0 ≤ b) (hb1 : b < 256 ^ w) (h : leB w a = leB w b) : a = b:=by
  rw [← leV_leB_small ha ha1,h,leV_leB_small hb hb1]
theorem leB_zero : ∀ w,leB w 0 = List.replicate w 0
  | 0=>rfl
  | w + 1=>by simp [leB,leB_zero w,List.replicate_succ]
theorem leB_take : ∀ (v w : Nat) (n : Int),v ≤ w → (leB w n).take v = leB v n
  | 0,_,_,_=>by simp [leB]
  | v + 1,0,_,h=>by omega
  | v + 1,w + 1,n,h=>by simp [leB,leB_take v w _ (by omega)]
theorem leB_get : ∀ (w : Nat) (n : Int) (i : Nat),i < w → (leB w n).getD i 0 = n / 256 ^ i % 256
  | 0,_,_,h=>by omega
  | w + 1,n,0,_=>by simp [leB]
  | w + 1,n,i + 1,h=>by
    simp only [leB,List.getD_cons_succ]
    rw [leB_get w (n / 256) i (by omega),p256_succ,Int.ediv_ediv_of_nonneg (by omega)]
theorem leV_append : ∀ (l m : List Int),leV (l ++ m) = leV l + 256 ^ l.length * leV m
  | [],m=>by simp [leV]
  | b :: l,m=>by
    simp only [List.cons_append,leV,leV_append l m,List.length_cons,p256_succ,Int.mul_add,Int.mul_assoc]
    omega
theorem leV_drop_succ {l : List Int} {i : Nat} (h : i < l.length) : leV (l.drop i) = l.getD i 0 + 256 * leV (l.drop (i + 1)):=by
  rw [List.drop_eq_getElem_cons h]
  simp [leV,List.getD_eq_getElem?_getD,List.getElem?_eq_getElem h]
def takeL : List Int → List Int → Option (List Int)
  | _,[]=>some []
  | b,w :: ws=>if w < 0 ∨ 7 < w ∨ (b.length : Int) < w then none else (takeL (b.drop w.toNat) ws).map (leV (b.take w.toNat) :: ·)
def takeR (b ws : List Int) : List Int × Bool:=match takeL b ws with|none=>([],false)|some l=>(l,true)
theorem wraps_i64 (n : Int) (h0 : 0 ≤ n) (h1 : n < 2 ^ 63) : IntKind.i64.wrap n = n :=
  wrap_id n (by omega) (by omega)
theorem wraps_u64 (n : Int) (h0 : 0 ≤ n) (h1 : n < 2 ^ 64) : IntKind.u64.wrap n = n:=by
  simp only [IntKind.wrap,IntKind.bits,IntKind.signed]
  simp
  omega
theorem or256 {x y : Int} (hx : 0 ≤ x) (hx1 : x < 2 ^ 55) (hy : 0 ≤ y) (hy1 : y < 256) : bits .or .i64 (x * 256) y = x * 256 + y :=
  Go.bits_join .i64 63 (by decide) wraps_i64 8 (x * 256) y (by omega) (by omega) (by omega) hy (by omega) (by omega)
theorem set_app {α : Type} (pre : List α) (x y : α) (post : List α) : (pre ++ x :: post).set pre.length y = (pre ++ [y]) ++ post:=by
  induction pre with
  | nil=>rfl
  | cons a l ih=>simp [ih]
theorem getD_app {α : Type} (pre : List α) (x d : α) (post : List α) : (pre ++ x :: post).getD pre.length d = x:=by
  induction pre with
  | nil=>rfl
  | cons a l ih=>simp
theorem p256_eq (w : Nat) : (256 : Int) ^ w = 2 ^ (8 * w):=by
  rw [Int.pow_mul];rfl
theorem and255 {n : Int} (h : 0 ≤ n) (h1 : n < 2 ^ 63) : bits .and .i64 n 255 = n % 256 :=
  Go.bits_mask .i64 63 (by decide) wraps_i64 8 (by decide) n h h1
theorem andw {n : Int} (h : 0 ≤ n) (h1 : n < 2 ^ 63) (w : Nat) (hw : w ≤ 7) : bits .and .i64 n (256 ^ w - 1) = n % 256 ^ w:=by
  rw [p256_eq]
  exact Go.bits_mask .i64 63 (by decide) wraps_i64 (8 * w) (by omega) n h h1
theorem takeL_bad : ∀ (ws b : List Int) (x : Int),(x < 0 ∨ 7 < x) → takeL b (ws ++ [x]) = none
  | [],b,x,h=>by
    have h' : x < 0 ∨ 7 < x ∨ (b.length : Int) < x:=by omega
    simp [takeL,h']
  | w :: ws,b,x,h=>by
    simp only [List.cons_append,takeL,takeL_bad ws _ x h]
    split <;> rfl
theorem takeL_some : ∀ (ws b l : List Int),takeL b ws = some l → l.length = ws.length
  | [],b,l,h=>by simp [takeL] at h;subst h;rfl
  | w :: ws,b,l,h=>by
    simp only [takeL] at h
    split at h
    · cases h
    · obtain ⟨m,hm,rfl⟩:=Option.map_eq_some_iff.1 h
      simp [takeL_some ws _ m hm]
def okW (ws : List Int) : Prop:=∀ x ∈ ws,0 ≤ x ∧ x ≤ 7
theorem sum_nonneg : ∀ (ws : List Int),okW ws → 0 ≤ ws.sum
  | [],_=>by simp
  | w :: ws,h=>by
    have:=sum_nonneg ws (fun x hx=>h x (List.mem_cons_of_mem _ hx))
    have:=h w (List.mem_cons_self ..)
    simp only [List.sum_cons];omega
theorem takeL_none_iff : ∀ (ws b : List Int),okW ws → (takeL b ws = none ↔ (b.length : Int) < ws.sum)
  | [],b,_=>by simp [takeL]
  | w :: ws,b,h=>by
    have hw:=h w (List.mem_cons_self ..)
    have hs:=sum_nonneg ws (fun x hx=>h x (List.mem_cons_of_mem _ hx))
    have ih:=takeL_none_iff ws (b.drop w.toNat) (fun x hx=>h x (List.mem_cons_of_mem _ hx))
    simp only [takeL,List.sum_cons]
    by_cases hc : w < 0 ∨ 7 < w ∨ (b.length : Int) < w
    · rw [if_pos hc];simp;omega
    · rw [if_neg hc,Option.map_eq_none_iff,ih,List.length_drop];omega
def TellsW (b ws want : List Int) : Prop:=∀ c vs,takeL (b ++ c) (ws ++ vs) = (takeL c vs).map (want ++ ·)
theorem tellsW_nil : TellsW [] [] []:=fun c vs=>by simp
theorem tellsW_snoc {b ws want : List Int} (h : TellsW b ws want) {w : Nat} {n : Int} (hw : w ≤ 7) (h0 : 0 ≤ n) (h1 : n < 256 ^ w) : TellsW (b ++ leB w n) (ws ++ [(w : Int)]) (want ++ [n]):=by
  intro c vs
  have e:=h (leB w n ++ c) ((w : Int) :: vs)
  rw [List.append_assoc,List.append_assoc,List.singleton_append,e]
  have hl:=leB_length w n
  simp only [takeL,Int.toNat_natCast]
  rw [if_neg (by rw [List.length_append];omega),List.drop_left' hl,List.take_left' hl,leV_leB_small h0 h1]
  cases takeL c vs <;> simp
structure Xt where
  f0 : Int
  f1 : Int
  f2 : Int
  f3 : Int
  f4 : Int
def oneE (e : Xt) : Bool:=decide (1 ≤ e.f1 ∧ e.f1 < 4096 ∧ e.f2 ≤ 64 ∧ 0 ≤ e.f3 ∧ e.f3 < e.f2 ∧ 1 ≤ e.f4 ∧ e.f4 ≤ e.f2 - e.f3)
def vRow : Int → List Xt → Bool
  | _,[]=>true
  | n,e :: l=>oneE e && (decide (e.f0 = n) && (decide (e.f4 ≤ 1000 - n) && vRow (n + e.f4) l))
def okE (e : Xt) : Prop:=(0 ≤ e.f0 ∧ e.f0 < 65536) ∧ (0 ≤ e.f1 ∧ e.f1 < 65536) ∧ (0 ≤ e.f2 ∧ e.f2 < 256) ∧ (0 ≤ e.f3 ∧ e.f3 < 256) ∧ (0 ≤ e.f4 ∧ e.f4 < 256)
def numE (e : Xt) : Prop:=(-9223372036854775808 ≤ e.f0 ∧ e.f0 ≤ 9223372036854775807) ∧ (-9223372036854775808 ≤ e.f1 ∧ e.f1 ≤ 9223372036854775807) ∧ (-9223372036854775808 ≤ e.f2 ∧ e.f2 ≤ 9223372036854775807) ∧ (-9223372036854775808 ≤ e.f3 ∧ e.f3 ≤ 9223372036854775807) ∧ (-9223372036854775808 ≤ e.f4 ∧ e.f4 ≤ 9223372036854775807)
theorem okE_num {e : Xt} (h : okE e) : numE e:=by unfold okE numE at *;omega
def exB (e : Xt) : List Int:=leB 2 (max 0 e.f0) ++ (leB 2 (max 0 e.f1) ++ (leB 1 (max 0 e.f2) ++ (leB 1 (max 0 e.f3) ++ leB 1 (max 0 e.f4))))
def exsB (l : List Xt) : List Int:=(l.map exB).flatten
theorem exB_length (e : Xt) : (exB e).length = 7:=by simp [exB,leB_length]
theorem exsB_nil : exsB [] = []:=rfl
theorem exsB_cons (e : Xt) (l : List Xt) : exsB (e :: l) = exB e ++ exsB l:=by simp [exsB]
theorem exsB_length : ∀ l : List Xt,(exsB l).length = 7 * l.length
  | []=>rfl
  | e :: l=>by rw [exsB_cons,List.length_append,exB_length,exsB_length l,List.length_cons];omega
theorem exB_byt (e : Xt) : Byt (exB e):=byt_append (leB_byt _ _) (byt_append (leB_byt _ _) (byt_append (leB_byt _ _) (byt_append (leB_byt _ _) (leB_byt _ _))))
theorem exsB_byt : ∀ l : List Xt,Byt (exsB l)
  | []=>byt_nil
  | e :: l=>by rw [exsB_cons];exact byt_append (exB_byt e) (exsB_byt l)
theorem vRow_facts : ∀ (l : List Xt) (n : Int),0 ≤ n → n ≤ 1000 → vRow n l = true → (∀ e ∈ l,okE e) ∧ (l.length : Int) ≤ 1000 - n
  | [],n,_,h1,_=>⟨fun e h=>by simp at h,by simp;omega⟩
  | e :: l,n,h0,h1,h=>by
    simp only [vRow,Bool.and_eq_true,decide_eq_true_eq,oneE] at h
    obtain ⟨ho,h2,h3,h4⟩:=h
    obtain ⟨ih1,ih2⟩:=vRow_facts l (n + e.f4) (by omega) (by omega) h4
    refine ⟨fun x hx=>?_,by rw [List.length_cons];omega⟩
    rcases List.mem_cons.1 hx with rfl|hx
    · unfold okE;omega
    · exact ih1 x hx
def noneR (a b : Int) (l : List Xt) : Bool:=decide (a = 0) && (decide (b = 0) && decide (l.length = 0))
def validR (kind track a b : Int) (l : List Xt) : Bool :=
  if kind = 1 ∨ kind = 2 then noneR a b l && decide (0 ≤ track ∧ track ≤ 99)
  else if kind = 4 ∨ kind = 5 then noneR a b l && decide (track = 0)
  else if kind = 3 then decide (0 ≤ track ∧ track ≤ 99) && (decide (0 ≤ a ∧ a ≤ b ∧ b ≤ 1000) && vRow 0 l)
  else false
def packR (kind track a b : Int) (l : List Xt) : List Int :=
  leB 1 (max 0 kind) ++ (leB 1 (max 0 track) ++ (leB 2 (max 0 a) ++ (leB 2 (max 0 b) ++ (leB 2 (l.length : Int) ++ exsB l))))
theorem packR_length (kind track a b : Int) (l : List Xt) : (packR kind track a b l).length = 8 + 7 * l.length:=by
  simp [packR,leB_length,exsB_length];omega
theorem packR_byt (kind track a b : Int) (l : List Xt) : Byt (packR kind track a b l) :=
  byt_append (leB_byt _ _) (byt_append (leB_byt _ _) (byt_append (leB_byt _ _) (byt_append (leB_byt _ _) (byt_append (leB_byt _ _) (exsB_byt l)))))
theorem validR_facts {kind track a b : Int} {l : List Xt} (h : validR kind track a b l = true) :
    1 ≤ kind ∧ kind ≤ 5 ∧ 0 ≤ track ∧ track ≤ 99 ∧ 0 ≤ a ∧ a ≤ 1000 ∧ 0 ≤ b ∧ b ≤ 1000 ∧ (∀ e ∈ l,okE e) ∧ l.length ≤ 1000:=by
  unfold validR noneR at h
  split at h
  · simp only [Bool.and_eq_true,decide_eq_true_eq] at h
    obtain rfl:=List.eq_nil_of_length_eq_zero h.1.2.2
    refine ⟨by omega,by omega,by omega,by omega,by omega,by omega,by omega,by omega,fun e h=>by simp at h,by simp⟩
  · split at h
    · simp only [Bool.and_eq_true,decide_eq_true_eq] at h
      obtain rfl:=List.eq_nil_of_length_eq_zero h.1.2.2
      refine ⟨by omega,by omega,by omega,by omega,by omega,by omega,by omega,by omega,fun e h=>by simp at h,by simp⟩
    · split at h
      · simp only [Bool.and_eq_true,decide_eq_true_eq] at h
        obtain ⟨h1,h2⟩:=vRow_facts l 0 (by omega) (by omega) h.2.2
        refine ⟨by omega,by omega,by omega,by omega,by omega,by omega,by omega,by omega,h1,by omega⟩
      · cases h
def takeE : List Int → Nat → List Xt
  | _,0=>[]
  | b,n + 1=>⟨leV (b.take 2),leV ((b.drop 2).take 2),leV ((b.drop 4).take 1),leV ((b.drop 5).take 1),leV ((b.drop 6).take 1)⟩ :: takeE (b.drop 7) n
theorem takeE_length : ∀ (n : Nat) (b : List Int),(takeE b n).length = n
  | 0,_=>rfl
  | n + 1,b=>by simp [takeE,takeE_length n]
theorem takeL_five {b : List Int} (h : 7 ≤ b.length) : takeL b [2,2,1,1,1] = some [leV (b.take 2),leV ((b.drop 2).take 2),leV ((b.drop 4).take 1),leV ((b.drop 5).take 1),leV ((b.drop 6).take 1)]:=by
  simp only [takeL,List.length_drop,show (2 : Int).toNat = 2 from rfl,show (1 : Int).toNat = 1 from rfl]
  rw [if_neg (by omega),if_neg (by omega),if_neg (by omega),if_neg (by omega),if_neg (by omega)]
  simp
theorem takeL_head {b : List Int} (h : 8 ≤ b.length) : takeL b [1,1,2,2,2] = some [leV (b.take 1),leV ((b.drop 1).take 1),leV ((b.drop 2).take 2),leV ((b.drop 4).take 2),leV ((b.drop 6).take 2)]:=by
  simp only [takeL,List.length_drop,show (2 : Int).toNat = 2 from rfl,show (1 : Int).toNat = 1 from rfl]
  rw [if_neg (by omega),if_neg (by omega),if_neg (by omega),if_neg (by omega),if_neg (by omega)]
  simp
theorem takeL_head_none {b : List Int} (h : ¬ 8 ≤ b.length) : takeL b [1,1,2,2,2] = none :=
  (takeL_none_iff [1,1,2,2,2] b (fun x hx=>by simp at hx;omega)).2 (by simp;omega)
theorem take_app {α : Type} {a : List α} {n : Nat} (h : a.length = n) (b : List α) : (a ++ b).take n = a:=List.take_left' h
theorem drop_app {α : Type} {a : List α} {n : Nat} (h : a.length = n) (b : List α) : (a ++ b).drop n = b:=List.drop_left' h
theorem takeE_exsB : ∀ (l : List Xt),(∀ e ∈ l,okE e) → takeE (exsB l) l.length = l
  | [],_=>rfl
  | e :: l,h=>by
    have ih:=takeE_exsB l (fun x hx=>h x (List.mem_cons_of_mem _ hx))
    obtain ⟨h0,h1,h2,h3,h4⟩:=h e (List.mem_cons_self ..)
    rw [exsB_cons,List.length_cons,takeE,drop_app (exB_length e),ih]
    have l2:=leB_length 2
    have l1:=leB_length 1
    have e0 : (exB e ++ exsB l).take 2 = leB 2 (max 0 e.f0):=by unfold exB;rw [List.append_assoc,take_app (l2 _)]
    have d0 : (exB e ++ exsB l).drop 2 = leB 2 (max 0 e.f1) ++ (leB 1 (max 0 e.f2) ++ (leB 1 (max 0 e.f3) ++ (leB 1 (max 0 e.f4) ++ exsB l))):=by unfold exB;rw [List.append_assoc,drop_app (l2 _)];simp
    have d1 : (exB e ++ exsB l).drop 4 = leB 1 (max 0 e.f2) ++ (leB 1 (max 0 e.f3) ++ (leB 1 (max 0 e.f4) ++ exsB l)):=by rw [show 4 = 2 + 2 from rfl,← List.drop_drop,d0,drop_app (l2 _)]
    have d2 : (exB e ++ exsB l).drop 5 = leB 1 (max 0 e.f3) ++ (leB 1 (max 0 e.f4) ++ exsB l):=by rw [show 5 = 4 + 1 from rfl,← List.drop_drop,d1,drop_app (l1 _)]
    have d3 : (exB e ++ exsB l).drop 6 = leB 1 (max 0 e.f4) ++ exsB l:=by rw [show 6 = 5 + 1 from rfl,← List.drop_drop,d2,drop_app (l1 _)]
    rw [e0,d0,d1,d2,d3,take_app (l2 _),take_app (l1 _),take_app (l1 _),take_app (l1 _)]
    rw [leV_leB_small (by omega) (by simp;omega),leV_leB_small (by omega) (by simp;omega),leV_leB_small (by omega) (by simp;omega),leV_leB_small (by omega) (by simp;omega),leV_leB_small (by omega) (by simp;omega)]
    rw [show max 0 e.f0 = e.f0 by omega,show max 0 e.f1 = e.f1 by omega,show max 0 e.f2 = e.f2 by omega,show max 0 e.f3 = e.f3 by omega,show max 0 e.f4 = e.f4 by omega]
theorem leV_one {b : List Int} (hb : Byt b) : 0 ≤ leV (b.take 1) ∧ leV (b.take 1) < 256:=by
  have h:=leV_bound (byt_take hb 1)
  have : (256 : Int) ^ (b.take 1).length ≤ 256 ^ 1:=p256_mono (List.length_take_le ..)
  omega
theorem leV_two {b : List Int} (hb : Byt b) : 0 ≤ leV (b.take 2) ∧ leV (b.take 2) < 65536:=by
  have h:=leV_bound (byt_take hb 2)
  have : (256 : Int) ^ (b.take 2).length ≤ 256 ^ 2:=p256_mono (List.length_take_le ..)
  omega
theorem takeE_ok : ∀ (n : Nat) (b : List Int),Byt b → ∀ e ∈ takeE b n,okE e
  | 0,_,_,e,h=>by simp [takeE] at h
  | n + 1,b,hb,e,h=>by
    simp only [takeE,List.mem_cons] at h
    rcases h with rfl|h
    · exact ⟨leV_two hb,leV_two (byt_drop hb _),leV_one (byt_drop hb _),leV_one (byt_drop hb _),leV_one (byt_drop hb _)⟩
    · exact takeE_ok n _ (byt_drop hb _) e h
theorem leB_leV_take {b : List Int} (hb : Byt b) {w : Nat} (h : w ≤ b.length) : leB w (leV (b.take w)) = b.take w:=by
  have:=leB_leV (byt_take hb w)
  rwa [show (b.take w).length = w by simp;omega] at this
theorem max_leV {b : List Int} (hb : Byt b) (w : Nat) : max 0 (leV (b.take w)) = leV (b.take w):=by
  have:=(leV_bound (byt_take hb w)).1;omega
theorem exsB_takeE : ∀ (n : Nat) (b : List Int),Byt b → b.length = 7 * n → exsB (takeE b n) = b
  | 0,b,_,h=>by obtain rfl:=List.eq_nil_of_length_eq_zero (by omega);rfl
  | n + 1,b,hb,h=>by
    have ih:=exsB_takeE n (b.drop 7) (byt_drop hb _) (by simp;omega)
    rw [takeE,exsB_cons,ih]
    unfold exB
    simp only [max_leV hb,max_leV (byt_drop hb _)]
    rw [leB_leV_take hb (by omega),leB_leV_take (byt_drop hb 2) (by simp;omega),leB_leV_take (byt_drop hb 4) (by simp;omega),leB_leV_take (byt_drop hb 5) (by simp;omega),leB_leV_take (byt_drop hb 6) (by simp;omega)]
    have s6 : (b.drop 6).take 1 ++ b.drop 7 = b.drop 6:=by rw [show b.drop 7 = (b.drop 6).drop 1 by rw [List.drop_drop]];exact List.take_append_drop 1 _
    have s5 : (b.drop 5).take 1 ++ b.drop 6 = b.drop 5:=by rw [show b.drop 6 = (b.drop 5).drop 1 by rw [List.drop_drop]];exact List.take_append_drop 1 _
    have s4 : (b.drop 4).take 1 ++ b.drop 5 = b.drop 4:=by rw [show b.drop 5 = (b.drop 4).drop 1 by rw [List.drop_drop]];exact List.take_append_drop 1 _
    have s2 : (b.drop 2).take 2 ++ b.drop 4 = b.drop 2:=by rw [show b.drop 4 = (b.drop 2).drop 2 by rw [List.drop_drop]];exact List.take_append_drop 2 _
    have s0 : b.take 2 ++ b.drop 2 = b:=List.take_append_drop 2 b
    rw [List.append_assoc,List.append_assoc,List.append_assoc,List.append_assoc,s6,s5,s4,s2,s0]
theorem head_packR {kind track a b : Int} {l : List Xt} (h0 : 0 ≤ kind ∧ kind < 256) (h1 : 0 ≤ track ∧ track < 256) (h2 : 0 ≤ a ∧ a < 65536) (h3 : 0 ≤ b ∧ b < 65536) (h4 : l.length < 65536) :
    takeR (packR kind track a b l) [1,1,2,2,2] = ([kind,track,a,b,(l.length : Int)],true) ∧ (packR kind track a b l).drop 8 = exsB l:=by
  have l2:=leB_length 2
  have l1:=leB_length 1
  have hl:=packR_length kind track a b l
  have e0 : (packR kind track a b l).take 1 = leB 1 (max 0 kind):=by unfold packR;rw [take_app (l1 _)]
  have d0 : (packR kind track a b l).drop 1 = leB 1 (max 0 track) ++ (leB 2 (max 0 a) ++ (leB 2 (max 0 b) ++ (leB 2 (l.length : Int) ++ exsB l))):=by unfold packR;rw [drop_app (l1 _)]
  have d1 : (packR kind track a b l).drop 2 = leB 2 (max 0 a) ++ (leB 2 (max 0 b) ++ (leB 2 (l.length : Int) ++ exsB l)):=by rw [show 2 = 1 + 1 from rfl,← List.drop_drop,d0,drop_app (l1 _)]
  have d2 : (packR kind track a b l).drop 4 = leB 2 (max 0 b) ++ (leB 2 (l.length : Int) ++ exsB l):=by rw [show 4 = 2 + 2 from rfl,← List.drop_drop,d1,drop_app (l2 _)]
  have d3 : (packR kind track a b l).drop 6 = leB 2 (l.length : Int) ++ exsB l:=by rw [show 6 = 4 + 2 from rfl,← List.drop_drop,d2,drop_app (l2 _)]
  have d4 : (packR kind track a b l).drop 8 = exsB l:=by rw [show 8 = 6 + 2 from rfl,← List.drop_drop,d3,drop_app (l2 _)]
  refine ⟨?_,d4⟩
  unfold takeR
  rw [takeL_head (by omega),e0,d0,d1,d2,d3,take_app (l1 _),take_app (l2 _),take_app (l2 _),take_app (l2 _)]
  rw [leV_leB_small (by omega) (by simp;omega),leV_leB_small (by omega) (by simp;omega),leV_leB_small (by omega) (by simp;omega),leV_leB_small (by omega) (by simp;omega),leV_leB_small (by omega) (by simp;omega)]
  rw [show max 0 kind = kind by omega,show max 0 track = track by omega,show max 0 a = a by omega,show max 0 b = b by omega]
theorem vRow_snoc : ∀ (l : List Xt) (n m : Int) (x : Xt),vRow n l = true → m = n + (l.map (·.f4)).sum → oneE x = true → x.f0 = m → x.f4 ≤ 1000 - m → vRow n (l ++ [x]) = true
  | [],n,m,x,_,hm,h1,h2,h3=>by
    simp at hm
    subst hm
    simp [vRow,h1,h2,h3]
  | e :: l,n,m,x,h,hm,h1,h2,h3=>by
    simp only [vRow,Bool.and_eq_true,decide_eq_true_eq] at h
    simp only [List.cons_append,vRow,Bool.and_eq_true,decide_eq_true_eq]
    refine ⟨h.1,h.2.1,h.2.2.1,vRow_snoc l _ m x h.2.2.2 ?_ h1 h2 h3⟩
    simp at hm
    omega
end Go.Proofs.Ytleahjfgedfgmaa.Am
end
section
set_option linter.unusedVariables false
set_option linter.unusedSimpArgs false
set_option maxRecDepth 10000
set_option maxHeartbeats 0
namespace Go.Proofs.Ytleahjfgedfgmaa.Am
open Go Go.RowKit Go.Proofs
theorem putB_leB (n : Int) (m : Nat) : putB n m = leB m n:=by
  apply List.ext_getElem
  · simp [putB,leB_length]
  · intro i h1 h2
    have hi : i < m:=by simpa [putB] using h1
    have e:=leB_get m n i hi
    rw [List.getD_eq_getElem?_getD,List.getElem?_eq_getElem h2] at e
    simp only [Option.getD_some] at e
    rw [e]
    simp [putB]
def eD (e : Xt) : D:=.agg [mI e.f0,mI e.f1,mI e.f2,mI e.f3,mI e.f4]
theorem eD_cells (e : Xt) : (eD e).cells = [mI e.f0,mI e.f1,mI e.f2,mI e.f3,mI e.f4]:=rfl
theorem mI_eq (n : Int) : mI n = .v (.int .i64 n):=rfl
def x0 : Xt:=⟨0,0,0,0,0⟩
theorem eD_inj (l m : List Xt) : (l.map eD = m.map eD) = (l = m):=list_map_inj eD (fun a b h=>by cases a;cases b;simp [eD,mI] at h;simp [h]) l m
theorem Y_inj (l m : List (List Int)) : (l.map bys = m.map bys) = (l = m):=list_map_inj bys (fun a b h=>by rwa [bys_inj] at h) l m
theorem nth_E (l : List Xt) (i : Nat) (h : i < l.length) : nth (l.map eD) i = eD (l.getD i x0):=nth_map eD l i x0 h
theorem nth_Y (l : List (List Int)) (i : Nat) (h : i < l.length) : nth (l.map bys) i = bys (l.getD i []):=nth_map bys l i [] h
theorem all_Y (l : List (List Int)) : (∀ d ∈ l.map bys,d.cells.length = 1) = True:=by simp [bys_cells]
theorem all_E (l : List Xt) : (∀ d ∈ l.map eD,d.cells.length = 5) = True:=by simp [eD_cells]
theorem sc_E (l : List Xt) : (∀ d ∈ l.map eD,Scal' d) = True:=by
  simp only [eq_iff_iff,iff_true];intro d hd;obtain ⟨e,_,rfl⟩:=List.mem_map.1 hd
  exact .agg _ fun x hx=>by
    simp only [mI,List.mem_cons,List.not_mem_nil,or_false] at hx
    rcases hx with rfl|rfl|rfl|rfl|rfl <;> exact .v _
theorem bys_eq (l : List Int) : bys l = .list (l.map mB):=rfl
def flatK (l : List (List Int)) (k : Nat) : List Int:=(l.take k).flatten
theorem flatK_len (l : List (List Int)) (k : Nat) : (flatK l k).length ≤ l.flatten.length:=by
  have : l.flatten = flatK l k ++ (l.drop k).flatten:=by rw [flatK,← List.flatten_append,List.take_append_drop]
  rw [this,List.length_append];omega
theorem flatK_succ (l : List (List Int)) (k : Nat) (h : k < l.length) : flatK l k ++ l.getD k [] = flatK l (k + 1):=by
  rw [flatK,flatK,List.take_succ_eq_append_getElem h,List.flatten_append]
  simp [List.getD_eq_getElem?_getD,h]
theorem flatK_all (l : List (List Int)) (k : Nat) (h : l.length ≤ k) : flatK l k = l.flatten:=by rw [flatK,List.take_of_length_le h]
def agI (l : List Int) : D:=.agg (l.map mI)
def Sp_piece_One (ds : List D) (out : Out) : Prop:=∃ f0 f1 f2 f3 f4 : Int,ds = [.agg [.v (.int .i64 f0),.v (.int .i64 f1),.v (.int .i64 f2),.v (.int .i64 f3),.v (.int .i64 f4)]] ∧ numE ⟨f0,f1,f2,f3,f4⟩ ∧ out = ⟨.d (.v (.bool (oneE ⟨f0,f1,f2,f3,f4⟩))),[]⟩
theorem good_piece_One : Good Try.prog 57 Sp_piece_One:=by
  refine good_body (E:=E0) (nt:=43) (rs:=#[.tmp 2]) Try.func57 rfl rfl rfl ?_
  rintro ds out ⟨f0,f1,f2,f3,f4,rfl,hn,rfl⟩
  refine ⟨by simp,?_⟩
  unfold numE at hn
  simp only at hn
  repeat' first
 | refine AW.seq ?_
 | refine AW.block ?_
 | refine AW.regl E0_ok [0,1,2] ?_
 | refine then_n ?_
 | refine then_r ?_
 | refine then_x ?_
 | refine block_x ?_
 | refine block_o (by decide) ?_
 | refine block_n ?_
 | refine block_r ?_
 | refine AW.skip ?_
 | refine AW.ret ?_
 | refine AW.exit ?_
 | refine AW.cond rfl ?_ ?_
 | refine awl_none rfl ?_
 | refine awl_nil2 ?_
 | refine awl_some rfl rfl (Nat.le_of_ble_eq_true rfl) rfl rfl ?_ ?_
 | (refine fun (hc : _ = _)=>?_;first|cases hc|((try rw [hc]);(try simp only [stH] at hc);(try (exfalso;omega)));(try (show Awl _ _ _ _ _;simp only [stU])))
 | ((first|refine fun (K : V → List _ → _) hK=>?_|refine fun (_ : V → V)=>?_);simp (maxSteps:=1000000) (disch:=omega) only [go_sem,Int.reduceEq,↓reduceIte,reduceCtorEq,Nat.reduceEqDiff,Nat.reduceLT,Nat.reduceLeDiff,Nat.reduceAdd,Nat.reduceSub,Nat.reduceMul,Int.reduceToNat,Int.reduceLE,Int.reduceLT,E0,eD,mI_eq];(try (revert hK;intro hK;(repeat' first|(refine And.intro ?_ ?_)|(intro hc;first|cases hc|((try rw [hc]);(try simp only [stH] at hc);(try (exfalso;omega)))));all_goals first|(refine hK _ _ ?_;clear hK K;simp only [stU])|exact hK|omega)))
  all_goals ((refine Ends.of (nm []) (by first|exact .inl rfl|exact .inr rfl) ?_;simp (maxSteps:=1000000) (disch:=omega) only [go_sem,Int.reduceEq,↓reduceIte,reduceCtorEq,Nat.reduceEqDiff,Nat.reduceLT,Nat.reduceLeDiff,Nat.reduceAdd,Nat.reduceSub,Nat.reduceMul,Int.reduceToNat,Int.reduceLE,Int.reduceLT,E0]);refine vb_eq ?_;simp only [oneE,decide_eq_true_eq,Bool.false_eq_true,false_iff,true_iff];omega)
theorem ent_piece_One : Ent Try.prog 57:=⟨_,Try.func57,rfl,by decide⟩
end Go.Proofs.Ytleahjfgedfgmaa.Am
end
