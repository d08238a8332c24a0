import Derived.Test.YtigkcigoiinkpaaZCrc
import Derived.Test.YtigkcigoiinkpaaZSA
import Derived.Test.YtigkcigoiinkpaaZRA
section
set_option linter.unusedVariables false
set_option linter.unusedSimpArgs false
namespace Go.Proofs.Ytigkcigoiinkpaa.Am
open Go Go.RowKit Go.Proofs
def cP : BitVec 32:=0x04C11DB7#32
def one (x : BitVec 32) : BitVec 32:=if x.msb then (x <<< 1) ^^^ cP else x <<< 1
def ones : Nat → BitVec 32 → BitVec 32
  | 0,x=>x
  | n + 1,x=>ones n (one x)
theorem one_xor (x y : BitVec 32) : one (x ^^^ y) = one x ^^^ one y:=by
  unfold one
  rw [BitVec.msb_xor,BitVec.shiftLeft_xor_distrib]
  cases x.msb <;> cases y.msb <;> simp
  · exact BitVec.xor_assoc _ _ _
  · rw [BitVec.xor_assoc,BitVec.xor_assoc,BitVec.xor_comm cP]
  · rw [show (x <<< 1 ^^^ cP) ^^^ (y <<< 1 ^^^ cP) = (x <<< 1 ^^^ y <<< 1) ^^^ (cP ^^^ cP) by ac_rfl,BitVec.xor_self,BitVec.xor_zero]
theorem ones_xor : ∀ (n : Nat) (x y : BitVec 32),ones n (x ^^^ y) = ones n x ^^^ ones n y
  | 0,_,_=>rfl
  | n + 1,x,y=>by rw [ones,ones,ones,one_xor,ones_xor n]
theorem ones_low : ∀ (n : Nat) (x : BitVec 32),n ≤ 8 → (∀ i,32 - n ≤ i → x.getLsbD i = false) → ones n x = x <<< n
  | 0,x,_,_=>by simp [ones]
  | n + 1,x,hn,h=>by
    have hm : x.msb = false:=by rw [BitVec.msb_eq_getLsbD_last];exact h 31 (by omega)
    have e : one x = x <<< 1:=by unfold one;rw [if_neg (by simp [hm])]
    rw [ones,e,ones_low n _ (by omega) (fun i hi=>by
      rw [BitVec.getLsbD_shiftLeft]
      by_cases hi32 : i < 32
      · have : x.getLsbD (i - 1) = false:=h (i - 1) (by omega)
        simp [this]
      · simp [hi32]),← BitVec.shiftLeft_add,Nat.add_comm]
def cB (x : BitVec 32) (b : BitVec 8) : BitVec 32:=ones 8 (x ^^^ (b.zeroExtend 32 <<< 24))
theorem mask24 : ∀ i : Fin 32,(0x00FFFFFF#32).getLsbD i.val = decide (i.val < 24):=by decide
theorem cB_tab (x : BitVec 32) (b : BitVec 8) : cB x b = (x <<< 8) ^^^ ones 8 (((x >>> 24).setWidth 8 ^^^ b).setWidth 32 <<< 24):=by
  have hm : ∀ i,(x &&& 0x00FFFFFF#32).getLsbD i = (decide (i < 24) && x.getLsbD i):=by
    intro i
    rw [BitVec.getLsbD_and]
    by_cases h : i < 32
    · rw [mask24 ⟨i,h⟩,Bool.and_comm]
    · rw [BitVec.getLsbD_of_ge x i (by omega)];simp
  have e : x ^^^ (b.zeroExtend 32 <<< 24) = (x &&& 0x00FFFFFF#32) ^^^ (((x >>> 24).setWidth 8 ^^^ b).setWidth 32 <<< 24):=by
    apply BitVec.eq_of_getLsbD_eq
    intro i hi
    rw [BitVec.getLsbD_xor,BitVec.getLsbD_xor,hm]
    simp only [BitVec.getLsbD_xor,BitVec.getLsbD_shiftLeft,BitVec.getLsbD_setWidth,BitVec.getLsbD_ushiftRight]
    by_cases h : i < 24
    · simp [h]
    · simp [h,hi,show 24 + (i - 24) = i by omega,show i - 24 < 8 by omega,show i - 24 < 32 by omega]
  have l : ones 8 (x &&& 0x00FFFFFF#32) = x <<< 8:=by
    rw [ones_low 8 _ (by omega) (fun i hi=>by rw [hm,decide_eq_false (by omega),Bool.false_and])]
    apply BitVec.eq_of_getLsbD_eq
    intro i hi
    rw [BitVec.getLsbD_shiftLeft,BitVec.getLsbD_shiftLeft,hm]
    by_cases h : i < 8
    · simp [h]
    · simp [show i - 8 < 24 by omega]
  unfold cB
  rw [e,ones_xor,l]
def bv (n : Int) : BitVec 32:=BitVec.ofInt 32 n
def b8 (n : Int) : BitVec 8:=BitVec.ofInt 8 n
def iv (x : BitVec 32) : Int:=x.toNat
theorem bv_iv (x : BitVec 32) : bv (iv x) = x:=by
  apply BitVec.eq_of_toNat_eq;simp [bv,iv]
theorem iv_bv {n : Int} (h0 : 0 ≤ n) (h1 : n < 4294967296) : iv (bv n) = n:=by
  unfold iv bv;rw [BitVec.toNat_ofInt];omega
theorem wrap32 (y : BitVec 32) : IntKind.u32.wrap (y.toNat : Int) = iv y:=by
  have:=y.isLt
  unfold iv
  simp only [IntKind.wrap,IntKind.bits,IntKind.signed,Bool.false_and,Bool.false_eq_true,if_false]
  omega
theorem wrap8 (y : BitVec 8) : IntKind.u8.wrap (y.toNat : Int) = (y.toNat : Int):=by
  have:=y.isLt
  simp only [IntKind.wrap,IntKind.bits,IntKind.signed,Bool.false_and,Bool.false_eq_true,if_false]
  omega
theorem bits32 (a b : Int) : Go.bits .xor .u32 a b = iv (bv a ^^^ bv b):=wrap32 _
theorem bits8 (a b : Int) : Go.bits .xor .u8 a b = ((b8 a ^^^ b8 b).toNat : Int):=wrap8 _
theorem crcOne_bv {s : Int} (h0 : 0 ≤ s) (h1 : s < 4294967296) : QC.crcOne s = iv (one (bv s)):=by
  have hm : (bv s).msb = decide (s / 2147483648 = 1):=by
    rw [BitVec.msb_eq_decide]
    have : ((bv s).toNat : Int) = s:=iv_bv h0 h1
    simp only [decide_eq_decide]
    omega
  have hs : bv ((s * 2) % 4294967296) = bv s <<< 1:=by
    apply BitVec.eq_of_toNat_eq
    simp only [bv,BitVec.toNat_shiftLeft,BitVec.toNat_ofInt,Nat.shiftLeft_eq]
    omega
  unfold QC.crcOne one
  by_cases c : s / 2147483648 = 1
  · rw [if_pos c,if_pos (by rw [hm];exact decide_eq_true c),bits32,hs];rfl
  · rw [if_neg c,if_neg (by rw [hm,decide_eq_false c];simp),← hs,iv_bv (by omega) (by omega)]
theorem iv_rng (x : BitVec 32) : 0 ≤ iv x ∧ iv x < 4294967296:=by
  have:=x.isLt;unfold iv;omega
theorem crcOnes_bv : ∀ (n : Nat) {s : Int},0 ≤ s → s < 4294967296 → QC.crcOnes n s = iv (ones n (bv s))
  | 0,s,h0,h1=>(iv_bv h0 h1).symm
  | n + 1,s,h0,h1=>by
    rw [QC.crcOnes,crcOne_bv h0 h1,crcOnes_bv n (iv_rng _).1 (iv_rng _).2,bv_iv];rfl
def cA : BitVec 32 → List Int → BitVec 32
  | x,[]=>x
  | x,b :: l=>cA (cB x (b8 b)) l
theorem crcAdd_bv : ∀ (l : List Int) {s : Int},(∀ x ∈ l,0 ≤ x ∧ x < 256) → 0 ≤ s → s < 4294967296 → QC.crcAdd s l = iv (cA (bv s) l)
  | [],s,_,h0,h1=>(iv_bv h0 h1).symm
  | b :: l,s,hl,h0,h1=>by
    have hb:=hl b (List.mem_cons_self ..)
    have e1 : bv ((s * 256) % 4294967296) = bv s <<< 8:=by
      apply BitVec.eq_of_toNat_eq
      simp only [bv,BitVec.toNat_shiftLeft,BitVec.toNat_ofInt,Nat.shiftLeft_eq]
      omega
    have e2 : bv (Go.bits .xor .u8 ((s / 16777216) % 256) b * 16777216 % 4294967296) = (((bv s >>> 24).setWidth 8 ^^^ b8 b).setWidth 32 <<< 24):=by
      have e3 : BitVec.ofInt 8 (s / 16777216 % 256) = (bv s >>> 24).setWidth 8:=by
        apply BitVec.eq_of_toNat_eq
        simp only [bv,BitVec.toNat_setWidth,BitVec.toNat_ushiftRight,BitVec.toNat_ofInt,Nat.shiftRight_eq_div_pow]
        omega
      have e4 : Go.bits .xor .u8 ((s / 16777216) % 256) b = (((bv s >>> 24).setWidth 8 ^^^ b8 b).toNat : Int):=by
        rw [bits8,← e3];rfl
      rw [e4]
      generalize ((bv s >>> 24).setWidth 8 ^^^ b8 b) = y
      have:=y.isLt
      apply BitVec.eq_of_toNat_eq
      simp only [bv,BitVec.toNat_shiftLeft,BitVec.toNat_setWidth,BitVec.toNat_ofInt,Nat.shiftLeft_eq]
      omega
    rw [QC.crcAdd,crcAdd_bv l (fun x hx=>hl x (List.mem_cons_of_mem _ hx)) (QC.xor32_rng _ _).1 (QC.xor32_rng _ _).2,cA,cB_tab,bits32,bv_iv,e1,QC.crcTab,crcOnes_bv 8 (by omega) (by omega),bv_iv,e2]
theorem cA_append : ∀ (a b : List Int) (x : BitVec 32),cA x (a ++ b) = cA (cA x a) b
  | [],_,_=>rfl
  | c :: a,b,x=>cA_append a b _
end Go.Proofs.Ytigkcigoiinkpaa.Am
end
section
set_option linter.unusedVariables false
set_option linter.unusedSimpArgs false
set_option maxRecDepth 10000
set_option maxHeartbeats 0
namespace Go.Proofs.Ytigkcigoiinkpaa.Am
open Go Go.RowKit Go.Proofs
theorem onesL : ∀ (n : Nat) (s : Int),QC.crcOnes (n + 1) s = QC.crcOne (QC.crcOnes n s)
  | 0,s=>rfl
  | n + 1,s=>by rw [QC.crcOnes,onesL n];rfl
def cIn (s b : Int) : Int:=Go.bits .xor .u32 s (b * 16777216)
theorem cIn_rng (s b : Int) : 0 ≤ cIn s b ∧ cIn s b < 4294967296:=QC.xor32_rng _ _
theorem cIn_cB {s b : Int} (hb : 0 ≤ b ∧ b < 256) : QC.crcOnes 8 (cIn s b) = iv (cB (bv s) (b8 b)):=by
  rw [crcOnes_bv 8 (cIn_rng _ _).1 (cIn_rng _ _).2]
  unfold cIn
  rw [bits32,bv_iv]
  have : bv (b * 16777216) = (b8 b).zeroExtend 32 <<< 24:=by
    apply BitVec.eq_of_toNat_eq
    simp only [bv,b8,BitVec.toNat_shiftLeft,BitVec.truncate_eq_setWidth,BitVec.toNat_setWidth,BitVec.toNat_ofInt,Nat.shiftLeft_eq]
    omega
  rw [this];rfl
theorem crcAdd_snoc {l : List Int} {s b : Int} (hl : Byt l) (hb : 0 ≤ b ∧ b < 256) (h0 : 0 ≤ s) (h1 : s < 4294967296) : QC.crcAdd s (l ++ [b]) = QC.crcOnes 8 (cIn (QC.crcAdd s l) b):=by
  rw [crcAdd_bv _ (fun x hx=>by
    rcases List.mem_append.1 hx with hx|hx
    · exact hl x hx
    · rw [List.mem_singleton.1 hx];exact hb) h0 h1,cA_append,cIn_cB hb,crcAdd_bv _ hl h0 h1,bv_iv];rfl
def Sp_overdubref01_Add (ds : List D) (out : Out) : Prop:=∃ (s : Int) (l : List Int),ds = [.v (.int .u32 s),.list (l.map mB)] ∧ (0 ≤ s ∧ s < 4294967296) ∧ Byt l ∧ l.length ≤ 9223372036854775807 ∧ out = ⟨.d (.v (.int .u32 (QC.crcAdd s l))),[]⟩
theorem good_overdubref01_Add : Good Try.prog 80 Sp_overdubref01_Add:=by
  refine good_body (E:=E0) (nt:=35) (rs:=#[.tmp 4]) Try.func80 rfl rfl rfl ?_
  rintro ds out ⟨s,l,rfl,hs,hb,hl,rfl⟩
  refine ⟨by simp,?_⟩
  repeat' first
 | refine AW.seq ?_
 | refine AW.block ?_
 | refine AW.regl E0_ok [0,1,4,5,6,7,9,10,11,22,30] ?_
 | refine then_n ?_
 | refine then_r ?_
 | refine then_x ?_
 | refine block_x ?_
 | refine block_o (by decide) ?_
 | refine block_n ?_
 | refine block_r ?_
 | refine AW.skip ?_
 | refine AW.ret ?_
 | refine AW.exit ?_
 | refine AW.cond rfl ?_ ?_
 | refine awl_none rfl ?_
 | refine awl_nil2 ?_
 | (refine fun (hc : _ = _)=>?_;first|cases hc|((try rw [hc]);(try simp only [stH] at hc);(try (exfalso;omega)));(try (show Awl _ _ _ _ _;simp only [stU])))
 | ((first|refine fun (K : V → List _ → _) hK=>?_|refine fun (_ : V → V)=>?_);simp (disch:=omega) only [go_sem,Int.reduceEq,↓reduceIte,reduceCtorEq,Nat.reduceEqDiff,Nat.reduceLT,Nat.reduceLeDiff,Nat.reduceAdd,Nat.reduceSub,Nat.reduceMul,Int.reduceToNat,Int.reduceLE,Int.reduceLT,E0];(try (revert hK;intro hK;(repeat' first|(refine And.intro ?_ ?_)|(intro hc;first|cases hc|((try rw [hc]);(try simp only [stH] at hc);(try (exfalso;omega)))));all_goals first|(refine hK _ _ ?_;clear hK K;simp only [stU])|exact hK|omega)))
  refine AW.loop_wk (fun k : Nat=>⟨[(0,.d (.v (.int .u32 (QC.crcAdd s (l.take k))))),(1,.d (.list (l.map mB))),(9,.d (.v (.int .i64 l.length))),(10,.d (.v (.int .i64 k)))],[],35⟩)
    (fun k=>k ≤ l.length) (fun k=>l.length - k) 0 (by omega) (fun w0 oa a w hs=>Wk.sr (ρ:=nm []) (Wk.of ?_) hs) ?_
  · simp (disch:=omega) only [go_sem,Int.reduceEq,↓reduceIte,reduceCtorEq,Nat.reduceEqDiff,Nat.reduceLT,Nat.reduceLeDiff,Nat.reduceAdd,Nat.reduceSub,Nat.reduceMul,Int.reduceToNat,Int.reduceLE,Int.reduceLT,E0,List.take_zero,QC.crcAdd]
  · intro k hk
    have hbk : Byt (l.take k):=byt_take hb k
    by_cases hkl : k < l.length
    · have e2:=getD_byt hb k
      have e6 : nth (l.map mB) k = .v (.int .u8 (l.getD k 0)):=nth_B l k (by omega)
      have e7 : QC.crcAdd s (l.take (k + 1)) = QC.crcOnes 8 (cIn (QC.crcAdd s (l.take k)) (l.getD k 0)):=by
        rw [show l.take (k + 1) = l.take k ++ [l.getD k 0] by rw [List.take_add_one,List.getD_eq_getElem?_getD,List.getElem?_eq_getElem hkl];rfl]
        exact crcAdd_snoc hbk e2 hs.1 hs.2
      have hr:=QC.crcAdd_rng (l.take k) s hs.1 hs.2
      generalize l.getD k 0 = b at *
      obtain ⟨y,hy⟩ : ∃ y,QC.crcAdd s (l.take (k + 1)) = y:=⟨_,rfl⟩
      rw [hy] at e7
      generalize QC.crcAdd s (l.take k) = x at *
      have hw1 : IntKind.u32.wrap b = b:=by rw [wrap_u32];omega
      have hw2 : IntKind.u32.wrap (b * 2 ^ 24) = b * 16777216:=by rw [wrap_u32];omega
      have hin : Go.bits .xor .u32 x (b * 16777216) = cIn x b:=rfl
      repeat' first
 | refine AW.seq ?_
 | refine AW.block ?_
 | refine AW.regl E0_ok [0,1,4,5,6,7,9,10,11,22,30] ?_
 | refine then_n ?_
 | refine then_r ?_
 | refine then_x ?_
 | refine block_x ?_
 | refine block_o (by decide) ?_
 | refine block_n ?_
 | refine block_r ?_
 | refine AW.skip ?_
 | refine AW.ret ?_
 | refine AW.exit ?_
 | refine AW.cond rfl ?_ ?_
 | refine awl_none rfl ?_
 | refine awl_nil2 ?_
 | (refine fun (hc : _ = _)=>?_;first|cases hc|((try rw [hc]);(try simp only [stH] at hc);(try (exfalso;omega)));(try (show Awl _ _ _ _ _;simp only [stU])))
 | ((first|refine fun (K : V → List _ → _) hK=>?_|refine fun (_ : V → V)=>?_);simp (disch:=omega) only [go_sem,Int.reduceEq,↓reduceIte,reduceCtorEq,Nat.reduceEqDiff,Nat.reduceLT,Nat.reduceLeDiff,Nat.reduceAdd,Nat.reduceSub,Nat.reduceMul,Int.reduceToNat,Int.reduceLE,Int.reduceLT,E0,e6,all_B,hw1,hw2,hin];(try (revert hK;intro hK;(repeat' first|(refine And.intro ?_ ?_)|(intro hc;first|cases hc|((try rw [hc]);(try simp only [stH] at hc);(try (exfalso;omega)))));all_goals first|(refine hK _ _ ?_;clear hK K;simp only [stU])|exact hK|omega)))
      refine AW.loop_wk (fun j : Nat=>⟨[(0,.d (.v (.int .u32 (QC.crcOnes j (cIn x b))))),(1,.d (.list (l.map mB))),(6,.d (.v (.int .i64 j))),(9,.d (.v (.int .i64 l.length))),(10,.d (.v (.int .i64 k)))],[],35⟩)
        (fun j=>j ≤ 8) (fun j=>8 - j) 0 (by omega) (fun w0 oa a w hs=>Wk.sr (ρ:=nm []) (Wk.of ?_) hs) ?_
      · simp (disch:=omega) only [go_sem,Int.reduceEq,↓reduceIte,reduceCtorEq,Nat.reduceEqDiff,Nat.reduceLT,Nat.reduceLeDiff,Nat.reduceAdd,Nat.reduceSub,Nat.reduceMul,Int.reduceToNat,Int.reduceLE,Int.reduceLT,E0,QC.crcOnes]
      · intro j hj
        by_cases h8 : j < 8
        · have hv:=QC.crcOnes_rng j _ (cIn_rng x b).1 (cIn_rng x b).2
          obtain ⟨v,hvv⟩ : ∃ v,QC.crcOnes j (cIn x b) = v:=⟨_,rfl⟩
          have hw : QC.crcOnes (j + 1) (cIn x b) = QC.crcOne v:=by rw [onesL,hvv]
          rw [hvv] at hv ⊢
          have hw3 : IntKind.u32.wrap (v * 2) = (v * 2) % 4294967296:=rfl
          have hw4 : IntKind.u32.wrap (v * 2 ^ 1) = (v * 2) % 4294967296:=rfl
          by_cases c : v / 2147483648 = 1
          · have hz : QC.crcOne v = Go.bits .xor .u32 ((v * 2) % 4294967296) 79764919:=by rw [QC.crcOne,if_pos c]
            repeat' first
 | refine AW.seq ?_
 | refine AW.block ?_
 | refine AW.regl E0_ok [0,1,4,5,6,7,9,10,11,22,30] ?_
 | refine then_n ?_
 | refine then_r ?_
 | refine then_x ?_
 | refine block_x ?_
 | refine block_o (by decide) ?_
 | refine block_n ?_
 | refine block_r ?_
 | refine AW.skip ?_
 | refine AW.ret ?_
 | refine AW.exit ?_
 | refine AW.cond rfl ?_ ?_
 | refine awl_none rfl ?_
 | refine awl_nil2 ?_
 | (refine fun (hc : _ = _)=>?_;first|cases hc|((try rw [hc]);(try simp only [stH] at hc);(try (exfalso;omega)));(try (show Awl _ _ _ _ _;simp only [stU])))
 | ((first|refine fun (K : V → List _ → _) hK=>?_|refine fun (_ : V → V)=>?_);simp (disch:=omega) only [go_sem,Int.reduceEq,↓reduceIte,reduceCtorEq,Nat.reduceEqDiff,Nat.reduceLT,Nat.reduceLeDiff,Nat.reduceAdd,Nat.reduceSub,Nat.reduceMul,Int.reduceToNat,Int.reduceLE,Int.reduceLT,E0,hw3,hw4,c];(try (revert hK;intro hK;(repeat' first|(refine And.intro ?_ ?_)|(intro hc;first|cases hc|((try rw [hc]);(try simp only [stH] at hc);(try (exfalso;omega)))));all_goals first|(refine hK _ _ ?_;clear hK K;simp only [stU])|exact hK|omega)))
            refine ⟨j + 1,by omega,by omega,nm [],Wk.of ?_⟩
            simp (disch:=omega) only [go_sem,Int.reduceEq,↓reduceIte,reduceCtorEq,Nat.reduceEqDiff,Nat.reduceLT,Nat.reduceLeDiff,Nat.reduceAdd,Nat.reduceSub,Nat.reduceMul,Int.reduceToNat,Int.reduceLE,Int.reduceLT,E0]
            exact ⟨by rw [hw,hz],rfl⟩
          · have hz : QC.crcOne v = (v * 2) % 4294967296:=by rw [QC.crcOne,if_neg c]
            have c' : decide (v / 2147483648 = 1) = false:=decide_eq_false c
            repeat' first
 | refine AW.seq ?_
 | refine AW.block ?_
 | refine AW.regl E0_ok [0,1,4,5,6,7,9,10,11,22,30] ?_
 | refine then_n ?_
 | refine then_r ?_
 | refine then_x ?_
 | refine block_x ?_
 | refine block_o (by decide) ?_
 | refine block_n ?_
 | refine block_r ?_
 | refine AW.skip ?_
 | refine AW.ret ?_
 | refine AW.exit ?_
 | refine AW.cond rfl ?_ ?_
 | refine awl_none rfl ?_
 | refine awl_nil2 ?_
 | (refine fun (hc : _ = _)=>?_;first|cases hc|((try rw [hc]);(try simp only [stH] at hc);(try (exfalso;omega)));(try (show Awl _ _ _ _ _;simp only [stU])))
 | ((first|refine fun (K : V → List _ → _) hK=>?_|refine fun (_ : V → V)=>?_);simp (disch:=omega) only [go_sem,Int.reduceEq,↓reduceIte,reduceCtorEq,Nat.reduceEqDiff,Nat.reduceLT,Nat.reduceLeDiff,Nat.reduceAdd,Nat.reduceSub,Nat.reduceMul,Int.reduceToNat,Int.reduceLE,Int.reduceLT,E0,hw3,hw4,c'];(try (revert hK;intro hK;(repeat' first|(refine And.intro ?_ ?_)|(intro hc;first|cases hc|((try rw [hc]);(try simp only [stH] at hc);(try (exfalso;omega)))));all_goals first|(refine hK _ _ ?_;clear hK K;simp only [stU])|exact hK|omega)))
            refine ⟨j + 1,by omega,by omega,nm [],Wk.of ?_⟩
            simp (disch:=omega) only [go_sem,Int.reduceEq,↓reduceIte,reduceCtorEq,Nat.reduceEqDiff,Nat.reduceLT,Nat.reduceLeDiff,Nat.reduceAdd,Nat.reduceSub,Nat.reduceMul,Int.reduceToNat,Int.reduceLE,Int.reduceLT,E0]
            exact ⟨by rw [hw,hz],rfl⟩
        · obtain rfl : j = 8:=by omega
          repeat' first
 | refine AW.seq ?_
 | refine AW.block ?_
 | refine AW.regl E0_ok [0,1,4,5,6,7,9,10,11,22,30] ?_
 | refine then_n ?_
 | refine then_r ?_
 | refine then_x ?_
 | refine block_x ?_
 | refine block_o (by decide) ?_
 | refine block_n ?_
 | refine block_r ?_
 | refine AW.skip ?_
 | refine AW.ret ?_
 | refine AW.exit ?_
 | refine AW.cond rfl ?_ ?_
 | refine awl_none rfl ?_
 | refine awl_nil2 ?_
 | (refine fun (hc : _ = _)=>?_;first|cases hc|((try rw [hc]);(try simp only [stH] at hc);(try (exfalso;omega)));(try (show Awl _ _ _ _ _;simp only [stU])))
 | ((first|refine fun (K : V → List _ → _) hK=>?_|refine fun (_ : V → V)=>?_);simp (disch:=omega) only [go_sem,Int.reduceEq,↓reduceIte,reduceCtorEq,Nat.reduceEqDiff,Nat.reduceLT,Nat.reduceLeDiff,Nat.reduceAdd,Nat.reduceSub,Nat.reduceMul,Int.reduceToNat,Int.reduceLE,Int.reduceLT,E0];(try (revert hK;intro hK;(repeat' first|(refine And.intro ?_ ?_)|(intro hc;first|cases hc|((try rw [hc]);(try simp only [stH] at hc);(try (exfalso;omega)))));all_goals first|(refine hK _ _ ?_;clear hK K;simp only [stU])|exact hK|omega)))
          refine ⟨k + 1,by omega,by omega,nm [],Wk.of ?_⟩
          simp (disch:=omega) only [go_sem,Int.reduceEq,↓reduceIte,reduceCtorEq,Nat.reduceEqDiff,Nat.reduceLT,Nat.reduceLeDiff,Nat.reduceAdd,Nat.reduceSub,Nat.reduceMul,Int.reduceToNat,Int.reduceLE,Int.reduceLT,E0]
          exact ⟨by rw [hy,e7],rfl⟩
    · obtain rfl : k = l.length:=by omega
      rw [List.take_length]
      repeat' first
 | refine AW.seq ?_
 | refine AW.block ?_
 | refine AW.regl E0_ok [0,1,4,5,6,7,9,10,11,22,30] ?_
 | refine then_n ?_
 | refine then_r ?_
 | refine then_x ?_
 | refine block_x ?_
 | refine block_o (by decide) ?_
 | refine block_n ?_
 | refine block_r ?_
 | refine AW.skip ?_
 | refine AW.ret ?_
 | refine AW.exit ?_
 | refine AW.cond rfl ?_ ?_
 | refine awl_none rfl ?_
 | refine awl_nil2 ?_
 | (refine fun (hc : _ = _)=>?_;first|cases hc|((try rw [hc]);(try simp only [stH] at hc);(try (exfalso;omega)));(try (show Awl _ _ _ _ _;simp only [stU])))
 | ((first|refine fun (K : V → List _ → _) hK=>?_|refine fun (_ : V → V)=>?_);simp (disch:=omega) only [go_sem,Int.reduceEq,↓reduceIte,reduceCtorEq,Nat.reduceEqDiff,Nat.reduceLT,Nat.reduceLeDiff,Nat.reduceAdd,Nat.reduceSub,Nat.reduceMul,Int.reduceToNat,Int.reduceLE,Int.reduceLT,E0];(try (revert hK;intro hK;(repeat' first|(refine And.intro ?_ ?_)|(intro hc;first|cases hc|((try rw [hc]);(try simp only [stH] at hc);(try (exfalso;omega)))));all_goals first|(refine hK _ _ ?_;clear hK K;simp only [stU])|exact hK|omega)))
      (refine Ends.of (nm []) (by first|exact .inl rfl|exact .inr rfl) ?_;simp (disch:=omega) only [go_sem,Int.reduceEq,↓reduceIte,reduceCtorEq,Nat.reduceEqDiff,Nat.reduceLT,Nat.reduceLeDiff,Nat.reduceAdd,Nat.reduceSub,Nat.reduceMul,Int.reduceToNat,Int.reduceLE,Int.reduceLT,E0])
theorem ent_overdubref01_Add : Ent Try.prog 80:=⟨_,Try.func80,rfl,by decide⟩
noncomputable def D1 : Env:=⟨Try.prog,fun f ds out=>(f = 80 ∧ Sp_overdubref01_Add ds out),Es,fun _=>false⟩
theorem D1_sp : ∀ f ds out,D1.Sp f ds out → Ent D1.P f ∧ Good D1.P f (fun a b=>a = ds ∧ b = out):=by
  rintro f ds out ⟨rfl,h⟩
  exact ⟨ent_overdubref01_Add,good_overdubref01_Add.one h⟩
theorem D1_ok : D1.Ok:=⟨D1_sp,Es_ok⟩
def Sp_overdubref01_Sum (ds : List D) (out : Out) : Prop:=∃ l : List Int,ds = [.list (l.map mB)] ∧ Byt l ∧ l.length ≤ 9223372036854775807 ∧ out = ⟨.d (.v (.int .u32 (QC.crcSum l))),[]⟩
theorem good_overdubref01_Sum : Good Try.prog 65 Sp_overdubref01_Sum:=by
  refine good_body (E:=D1) (nt:=5) (rs:=#[.tmp 2]) Try.func65 rfl rfl rfl ?_
  rintro ds out ⟨l,rfl,hb,hl,rfl⟩
  refine ⟨by simp,?_⟩
  have hbt : Byt l = True:=eq_true hb
  repeat' first
 | refine AW.seq ?_
 | refine AW.block ?_
 | refine AW.regl D1_ok [0,2] ?_
 | refine then_n ?_
 | refine then_r ?_
 | refine then_x ?_
 | refine block_x ?_
 | refine block_o (by decide) ?_
 | refine block_n ?_
 | refine block_r ?_
 | refine AW.skip ?_
 | refine AW.ret ?_
 | refine AW.exit ?_
 | refine AW.cond rfl ?_ ?_
 | refine awl_none rfl ?_
 | refine awl_nil2 ?_
 | (refine fun (hc : _ = _)=>?_;first|cases hc|((try rw [hc]);(try simp only [stH] at hc);(try (exfalso;omega)));(try (show Awl _ _ _ _ _;simp only [stU])))
 | ((first|refine fun (K : V → List _ → _) hK=>?_|refine fun (_ : V → V)=>?_);simp (disch:=omega) only [go_sem,Int.reduceEq,↓reduceIte,reduceCtorEq,Nat.reduceEqDiff,Nat.reduceLT,Nat.reduceLeDiff,Nat.reduceAdd,Nat.reduceSub,Nat.reduceMul,Int.reduceToNat,Int.reduceLE,Int.reduceLT,D1,Sp_overdubref01_Add,hbt,mB_inj];(try (revert hK;intro hK;(repeat' first|(refine And.intro ?_ ?_)|(intro hc;first|cases hc|((try rw [hc]);(try simp only [stH] at hc);(try (exfalso;omega)))));all_goals first|(refine hK _ _ ?_;clear hK K;simp only [stU])|exact hK|omega)))
  (refine Ends.of (nm []) (by first|exact .inl rfl|exact .inr rfl) ?_;simp (disch:=omega) only [go_sem,Int.reduceEq,↓reduceIte,reduceCtorEq,Nat.reduceEqDiff,Nat.reduceLT,Nat.reduceLeDiff,Nat.reduceAdd,Nat.reduceSub,Nat.reduceMul,Int.reduceToNat,Int.reduceLE,Int.reduceLT,D1,Sp_overdubref01_Add,QC.crcSum])
theorem ent_overdubref01_Sum : Ent Try.prog 65:=⟨_,Try.func65,rfl,by decide⟩
noncomputable def D2 : Env:=⟨Try.prog,fun f ds out=>(f = 65 ∧ Sp_overdubref01_Sum ds out),Es,fun _=>false⟩
theorem D2_sp : ∀ f ds out,D2.Sp f ds out → Ent D2.P f ∧ Good D2.P f (fun a b=>a = ds ∧ b = out):=by
  rintro f ds out ⟨rfl,h⟩
  exact ⟨ent_overdubref01_Sum,good_overdubref01_Sum.one h⟩
theorem D2_ok : D2.Ok:=⟨D2_sp,Es_ok⟩
def toL (l : List Int) (n : Int) : List Int:=l ++ List.replicate (n.toNat - l.length) 0
def sumdL (l : List Int) (n : Int) : List Int:=toL l n ++ sumL (toL l n)
theorem toL_byt {l : List Int} (h : Byt l) (n : Int) : Byt (toL l n):=byt_append h (byt_replicate _)
theorem toL_len (l : List Int) (n : Int) : (toL l n).length = max l.length n.toNat:=by unfold toL;rw [List.length_append,List.length_replicate];omega
def Sp_overdubref01_Summed (ds : List D) (out : Out) : Prop:=∃ (l : List Int) (n : Int),ds = [.list (l.map mB),.v (.int .i64 n)] ∧ Byt l ∧ l.length ≤ 1000000 ∧ n ≤ 1000000 ∧ out = ⟨.sl 0 1 0 (sumdL l n).length true,[(0,.row 5 1 ((sumdL l n).map mB))]⟩
theorem good_overdubref01_Summed : Good Try.prog 35 Sp_overdubref01_Summed:=by
  refine good_body (E:=D2) (nt:=32) (rs:=#[.tmp 4]) Try.func35 rfl rfl rfl ?_
  rintro ds out ⟨l,n,rfl,hb,hl,hn,rfl⟩
  refine ⟨by simp,?_⟩
  repeat' first
 | refine AW.seq ?_
 | refine AW.block ?_
 | refine AW.regl D2_ok [0,1,4,5,6,12] ?_
 | refine then_n ?_
 | refine then_r ?_
 | refine then_x ?_
 | refine block_x ?_
 | refine block_o (by decide) ?_
 | refine block_n ?_
 | refine block_r ?_
 | refine AW.skip ?_
 | refine AW.ret ?_
 | refine AW.exit ?_
 | refine AW.cond rfl ?_ ?_
 | refine awl_none rfl ?_
 | refine awl_nil2 ?_
 | (refine fun (hc : _ = _)=>?_;first|cases hc|((try rw [hc]);(try simp only [stH] at hc);(try (exfalso;omega)));(try (show Awl _ _ _ _ _;simp only [stU])))
 | ((first|refine fun (K : V → List _ → _) hK=>?_|refine fun (_ : V → V)=>?_);simp (disch:=omega) only [go_sem,Int.reduceEq,↓reduceIte,reduceCtorEq,Nat.reduceEqDiff,Nat.reduceLT,Nat.reduceLeDiff,Nat.reduceAdd,Nat.reduceSub,Nat.reduceMul,Int.reduceToNat,Int.reduceLE,Int.reduceLT,D2,Sp_overdubref01_Sum];(try (revert hK;intro hK;(repeat' first|(refine And.intro ?_ ?_)|(intro hc;first|cases hc|((try rw [hc]);(try simp only [stH] at hc);(try (exfalso;omega)))));all_goals first|(refine hK _ _ ?_;clear hK K;simp only [stU])|exact hK|omega)))
  refine AW.loop_wk (fun k : Nat=>⟨[(1,.d (.v (.int .i64 n))),(4,.nil),(5,.sl 8 1 0 (l.length + k) true)],[(8,.row 5 1 ((l ++ List.replicate k 0).map mB))],32⟩)
    (fun k=>k ≤ n.toNat - l.length) (fun k=>n.toNat - l.length - k) 0 (by omega) (fun w0 oa a w hs=>Wk.sr (ρ:=nm []) (Wk.of ?_) hs) ?_
  · simp (disch:=omega) only [go_sem,Int.reduceEq,↓reduceIte,reduceCtorEq,Nat.reduceEqDiff,Nat.reduceLT,Nat.reduceLeDiff,Nat.reduceAdd,Nat.reduceSub,Nat.reduceMul,Int.reduceToNat,Int.reduceLE,Int.reduceLT,D2,Sp_overdubref01_Sum]
    simp
  · intro k hk
    have hlk : ((l ++ List.replicate k 0).map mB).length = l.length + k:=by simp
    have hll : l.length + (List.replicate k (0 : Int)).length = l.length + k:=by simp
    by_cases hkn : l.length + k < n.toNat
    · have hap : (l ++ List.replicate k 0).map mB ++ [.v (.int .u8 0)] = (l ++ List.replicate (k + 1) 0).map mB:=by
        rw [List.replicate_succ',← List.append_assoc];simp [mB]
      repeat' first
 | refine AW.seq ?_
 | refine AW.block ?_
 | refine AW.regl D2_ok [0,1,4,5,6,12] ?_
 | refine then_n ?_
 | refine then_r ?_
 | refine then_x ?_
 | refine block_x ?_
 | refine block_o (by decide) ?_
 | refine block_n ?_
 | refine block_r ?_
 | refine AW.skip ?_
 | refine AW.ret ?_
 | refine AW.exit ?_
 | refine AW.cond rfl ?_ ?_
 | refine awl_none rfl ?_
 | refine awl_nil2 ?_
 | (refine fun (hc : _ = _)=>?_;first|cases hc|((try rw [hc]);(try simp only [stH] at hc);(try (exfalso;omega)));(try (show Awl _ _ _ _ _;simp only [stU])))
 | ((first|refine fun (K : V → List _ → _) hK=>?_|refine fun (_ : V → V)=>?_);simp (disch:=omega) only [go_sem,Int.reduceEq,↓reduceIte,reduceCtorEq,Nat.reduceEqDiff,Nat.reduceLT,Nat.reduceLeDiff,Nat.reduceAdd,Nat.reduceSub,Nat.reduceMul,Int.reduceToNat,Int.reduceLE,Int.reduceLT,D2,Sp_overdubref01_Sum,hap,hlk,hll];(try (revert hK;intro hK;(repeat' first|(refine And.intro ?_ ?_)|(intro hc;first|cases hc|((try rw [hc]);(try simp only [stH] at hc);(try (exfalso;omega)))));all_goals first|(refine hK _ _ ?_;clear hK K;simp only [stU])|exact hK|omega)))
      refine ⟨k + 1,by omega,by omega,nm [(8,15)],Wk.of ?_⟩
      simp (disch:=omega) only [go_sem,Int.reduceEq,↓reduceIte,reduceCtorEq,Nat.reduceEqDiff,Nat.reduceLT,Nat.reduceLeDiff,Nat.reduceAdd,Nat.reduceSub,Nat.reduceMul,Int.reduceToNat,Int.reduceLE,Int.reduceLT,D2,Sp_overdubref01_Sum]
      rfl
    · obtain rfl : k = n.toNat - l.length:=by omega
      have hto : l ++ List.replicate (n.toNat - l.length) 0 = toL l n:=rfl
      have hln : l.length + (n.toNat - l.length) = (toL l n).length:=by rw [toL_len];omega
      have hbd : (toL l n).length ≤ 1000000:=by rw [toL_len];omega
      have hge : ¬ ((toL l n).length : Int) < n:=by rw [toL_len];omega
      have htk : ((toL l n).map mB).take (toL l n).length = (toL l n).map mB:=List.take_of_length_le (by simp)
      clear hlk hll hk hkn
      rw [hto,hln]
      clear hto hln
      have hs4:=sumL_len (toL l n)
      have hbt : Byt (toL l n) = True:=eq_true (toL_byt hb n)
      have hr:=QC.crcSum_rng (toL l n)
      have hsu : ([.v (.int .u8 (QC.crcSum (toL l n) / 16777216 % 256)),.v (.int .u8 (QC.crcSum (toL l n) / 65536 % 256)),.v (.int .u8 (QC.crcSum (toL l n) / 256 % 256)),.v (.int .u8 (QC.crcSum (toL l n) % 256))] : List D) = (sumL (toL l n)).map mB:=rfl
      repeat' first
 | refine AW.seq ?_
 | refine AW.block ?_
 | refine AW.regl D2_ok [0,1,4,5,6,12] ?_
 | refine then_n ?_
 | refine then_r ?_
 | refine then_x ?_
 | refine block_x ?_
 | refine block_o (by decide) ?_
 | refine block_n ?_
 | refine block_r ?_
 | refine AW.skip ?_
 | refine AW.ret ?_
 | refine AW.exit ?_
 | refine AW.cond rfl ?_ ?_
 | refine awl_none rfl ?_
 | refine awl_nil2 ?_
 | (refine fun (hc : _ = _)=>?_;first|cases hc|((try rw [hc]);(try simp only [stH] at hc);(try (exfalso;omega)));(try (show Awl _ _ _ _ _;simp only [stU])))
 | ((first|refine fun (K : V → List _ → _) hK=>?_|refine fun (_ : V → V)=>?_);simp (disch:=omega) only [go_sem,Int.reduceEq,↓reduceIte,reduceCtorEq,Nat.reduceEqDiff,Nat.reduceLT,Nat.reduceLeDiff,Nat.reduceAdd,Nat.reduceSub,Nat.reduceMul,Int.reduceToNat,Int.reduceLE,Int.reduceLT,D2,Sp_overdubref01_Sum,hbt,mB_inj,wrap_u8,hsu,htk,hs4];(try (revert hK;intro hK;(repeat' first|(refine And.intro ?_ ?_)|(intro hc;first|cases hc|((try rw [hc]);(try simp only [stH] at hc);(try (exfalso;omega)))));all_goals first|(refine hK _ _ ?_;clear hK K;simp only [stU])|exact hK|omega)))
      (refine Ends.of (nm [(0,31)]) (by first|exact .inl rfl|exact .inr rfl) ?_;simp (disch:=omega) only [go_sem,Int.reduceEq,↓reduceIte,reduceCtorEq,Nat.reduceEqDiff,Nat.reduceLT,Nat.reduceLeDiff,Nat.reduceAdd,Nat.reduceSub,Nat.reduceMul,Int.reduceToNat,Int.reduceLE,Int.reduceLT,D2,Sp_overdubref01_Sum,sumdL,List.map_append,List.length_append])
      exact ⟨by rw [sumL_len],by rw [← hsu];rfl⟩
theorem ent_overdubref01_Summed : Ent Try.prog 35:=⟨_,Try.func35,rfl,by decide⟩
end Go.Proofs.Ytigkcigoiinkpaa.Am
end
section
set_option linter.unusedVariables false
set_option linter.unusedSimpArgs false
namespace Go.Proofs.Ytigkcigoiinkpaa.Am
open Go Go.RowKit Go.Proofs
end Go.Proofs.Ytigkcigoiinkpaa.Am
end
