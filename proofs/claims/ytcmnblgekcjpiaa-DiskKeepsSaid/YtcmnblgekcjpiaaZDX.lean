import Derived.Test.YtcmnblgekcjpiaaZDL
set_option linter.unusedVariables false
set_option linter.unusedSimpArgs false
set_option maxRecDepth 10000
set_option maxHeartbeats 0
namespace Go.Proofs.Ytcmnblgekcjpiaa.Am
open Go Go.RowKit Go.Proofs
def rdD (d : Dk) : Dk:={ d with rd:=IntKind.i64.wrap (d.rd + 1) }
def ddD (d : Dk) : Dk:={ d with dead:=true }
theorem read_ok {d : Dk} {i : Int} (hi : 0 ≤ i ∧ i < d.kept.length) (hd : d.dead = false) : readOut d i = ⟨.tup [.sl 0 1 0 128 true,.d (.v (.int .i64 0))],(0,.row 5 1 ((readL d i).map mB)) :: lentD 1000002 (rdD d)⟩:=by
  unfold readOut;rw [if_neg (by simpa using hi),if_neg (by rw [hd];simp)];rfl
theorem read_dd {d : Dk} {i : Int} (hi : 0 ≤ i ∧ i < d.kept.length) (hd : d.dead = true) : readOut d i = ⟨.tup [.nil,.d (.v (.int .i64 9))],lentD 1000002 d⟩:=by
  unfold readOut;rw [if_neg (by simpa using hi),if_pos hd]
theorem flush_ok {d : Dk} (hd : deadN d = false) : flushOut d = ⟨.d (.v (.int .i64 0)),lentN (flD d)⟩:=by
  unfold flushOut;rw [if_neg (by rw [hd];simp)]
theorem flush_dd {d : Dk} (hd : deadN d = true) : flushOut d = ⟨.d (.v (.int .i64 9)),lentN (ddD d)⟩:=by
  unfold flushOut;rw [if_pos hd];rfl
theorem write_ok {d : Dk} {i : Int} {s : List Int} (hi : 0 ≤ i ∧ i < d.kept.length) (hs : s.length = 128) (hd : deadN d = false) : writeOut d i s = ⟨.d (.v (.int .i64 0)),lentN (wrD d i s)⟩:=by
  unfold writeOut;rw [if_neg (by rintro (h|h);exact h hi;exact h hs),if_neg (by rw [hd];simp)]
theorem write_dd {d : Dk} {i : Int} {s : List Int} (hi : 0 ≤ i ∧ i < d.kept.length) (hs : s.length = 128) (hd : deadN d = true) : writeOut d i s = ⟨.d (.v (.int .i64 9)),lentN (ddD d)⟩:=by
  unfold writeOut;rw [if_neg (by rintro (h|h);exact h hi;exact h hs),if_pos hd];rfl
theorem one_mB (x : Int) (l : List Int) : ([D.v (.int .u8 x)] = l.map mB) = ([x] = l):=by
  rw [show [D.v (.int .u8 x)] = [x].map mB from rfl,mB_inj]
theorem fullL_take (l : List Int) : ((fullL l).map mB).take 128 = (fullL l).map mB:=List.take_of_length_le (by simp [fullL_len])
theorem nil_mB (l : List Int) : ([] = l.map mB) = ([] = l):=by cases l <;> simp
theorem within_rngC {v n : Int} (hn : 1 ≤ n) : 0 ≤ within v n ∧ within v n < n:=by
  unfold within
  rw [if_neg (by omega)]
  have h1:=Int.tmod_lt_of_pos v (show 0 < n by omega)
  have h2:=Int.lt_tmod_of_pos v (show 0 < n by omega)
  split <;> omega
noncomputable def L1 : Env:=⟨Try.prog,fun f ds out=>False,Es,fun _=>false,fun f vs lent out=>False,fun f=>none,fun f=>false,false,fun f=>none⟩
theorem L1_sp : ∀ f ds out,L1.Sp f ds out → Ent L1.P f ∧ Good L1.P f (fun a b=>a = ds ∧ b = out):=fun _ _ _ h=>h.elim
theorem L1_sm : ∀ f vs lent out,L1.Sm f vs lent out → Ent L1.P f ∧ GoodM L1.P f (fun a l b=>a = vs ∧ l = lent ∧ b = out):=fun _ _ _ _ h=>h.elim
theorem L1_at : ∀ f k,L1.At f = some k → AtomOk L1.P f k:=fun _ _ h=>nomatch h
theorem L1_ok : L1.Ok:=⟨L1_sp,Es_ok,L1_sm,L1_at⟩
def Sp_overdubkeep_Cut_bool (ds : List D) (out : Out) : Prop:=∃ (l : List Bool) (n : Int),ds = [.list (l.map bD),.v (.int .i64 n)] ∧ 0 ≤ n ∧ l.length ≤ 9223372036854775807 ∧ out = ⟨.d (.list ((l.take n.toNat).map bD)),[]⟩
theorem good_overdubkeep_Cut_bool : Good Try.prog 19 Sp_overdubkeep_Cut_bool:=by
  refine good_body (E:=L1) (nt:=11) (rs:=#[.tmp 4]) Try.func19 rfl rfl rfl ?_
  rintro ds out ⟨l,n,rfl,h0,hl,rfl⟩
  refine ⟨by simp,?_⟩
  have hm1 : min (l.length : Int) n ≤ l.length:=by omega
  have hm2 : 0 ≤ min (l.length : Int) n:=by omega
  have htm : (l.map bD).take (min (l.length : Int) n).toNat = (l.take n.toNat).map bD:=by
    rw [← List.map_take]
    rcases Int.le_total (l.length : Int) n with h|h
    · rw [show min (l.length : Int) n = l.length by omega,Int.toNat_natCast,List.take_length,List.take_of_length_le (by omega)]
    · rw [show min (l.length : Int) n = n by omega]
  repeat' first
 | refine AW.seq ?_
 | refine AW.block ?_
 | refine AW.regl L1_ok [0,1,4] ?_
 | refine then_n ?_
 | refine then_r ?_
 | refine then_x ?_
 | refine block_x ?_
 | refine block_o (by decide) ?_
 | refine block_n ?_
 | refine block_r ?_
 | refine AW.skip ?_
 | refine AW.ret ?_
 | refine AW.exit ?_
 | refine AW.cond rfl ?_ ?_
 | refine awl_none rfl ?_
 | refine awl_nil2 ?_
 | (refine fun (hc : _ = _)=>?_;first|cases hc|((try rw [hc]);(try simp only [stH] at hc);(try (exfalso;omega)));(try (show Awl _ _ _ _ _;simp only [stU])))
 | ((first|refine fun (K : V → List _ → _) hK=>?_|refine fun (_ : V → V)=>?_);simp (maxSteps:=1000000) (disch:=omega) only [go_sem,Int.reduceEq,↓reduceIte,reduceCtorEq,Nat.reduceEqDiff,Nat.reduceLT,Nat.reduceLeDiff,Nat.reduceAdd,Nat.reduceSub,Nat.reduceMul,Int.reduceToNat,Int.reduceLE,Int.reduceLT,L1,cutOk,all_L,hm1,hm2,htm];(try (revert hK;intro hK;(repeat' first|(refine And.intro ?_ ?_)|(intro hc;first|cases hc|((try rw [hc]);(try simp only [stH] at hc);(try (exfalso;omega)))));all_goals first|(refine hK _ _ ?_;clear hK K;simp only [stU])|exact hK|omega)))
  all_goals (refine Ends.of (nm []) (by first|exact .inl rfl|exact .inr rfl) ?_;simp (maxSteps:=1000000) (disch:=omega) only [go_sem,Int.reduceEq,↓reduceIte,reduceCtorEq,Nat.reduceEqDiff,Nat.reduceLT,Nat.reduceLeDiff,Nat.reduceAdd,Nat.reduceSub,Nat.reduceMul,Int.reduceToNat,Int.reduceLE,Int.reduceLT,L1,htm])
theorem ent_overdubkeep_Cut_bool : Ent Try.prog 19:=⟨_,Try.func19,rfl,by decide⟩
end Go.Proofs.Ytcmnblgekcjpiaa.Am
