import Derived.Test.YtcmnblgekcjpiaaZDP
import Derived.Test.YtcmnblgekcjpiaaZHA
set_option linter.unusedVariables false
set_option linter.unusedSimpArgs false
set_option maxRecDepth 10000
set_option maxHeartbeats 0
namespace Go.Proofs.Ytcmnblgekcjpiaa.Am
open Go Go.RowKit Go.Proofs
theorem wrap_b8 (y : BitVec 8) : IntKind.u8.wrap (y.toNat : Int) = (y.toNat : Int):=by
  have:=y.isLt
  simp only [IntKind.wrap,IntKind.bits,IntKind.signed,Bool.false_and,Bool.false_eq_true,if_false]
  omega
theorem xor_bv (a b : Int) : Go.bits .xor .u8 a b = ((BitVec.ofInt 8 a ^^^ BitVec.ofInt 8 b).toNat : Int):=wrap_b8 _
theorem xor_u8r (a b : Int) : 0 ≤ Go.bits .xor .u8 a b ∧ Go.bits .xor .u8 a b < 256:=by
  rw [xor_bv];have:=(BitVec.ofInt 8 a ^^^ BitVec.ofInt 8 b).isLt;omega
theorem xor_back {b : Int} (m : Int) (hb : 0 ≤ b ∧ b < 256) : Go.bits .xor .u8 (Go.bits .xor .u8 b m) m = b:=by
  rw [xor_bv,xor_bv]
  have h : ∀ Z : BitVec 8,BitVec.ofInt 8 (Z.toNat : Int) = Z:=fun Z=>BitVec.eq_of_toNat_eq (by simp)
  rw [h,BitVec.xor_assoc,BitVec.xor_self,BitVec.xor_zero,BitVec.toNat_ofInt]
  omega
theorem turnL_back {s : List Int} (g : Int) (hs : ∀ x ∈ s,0 ≤ x ∧ x < 256) (h : g.toNat / 8 < s.length) : turnL g (turnL g s) = s:=by
  unfold turnL
  have e : (s.set (g.toNat / 8) (Go.bits .xor .u8 (s.getD (g.toNat / 8) 0) ((128 : Int) / 2 ^ (g.toNat % 8)))).getD (g.toNat / 8) 0 = Go.bits .xor .u8 (s.getD (g.toNat / 8) 0) ((128 : Int) / 2 ^ (g.toNat % 8)):=by
    simp [List.getD_eq_getElem?_getD,List.getElem?_set,h]
  rw [e,xor_back _ (by rw [List.getD_eq_getElem?_getD,List.getElem?_eq_getElem h];exact hs _ (List.getElem_mem h)),List.set_set]
  rw [List.getD_eq_getElem?_getD,List.getElem?_eq_getElem h]
  exact List.set_getElem_self _
def pD (i : Nat) (k : List Int) (w : List (Int × List Int)) (n wr fl : Int) : Dk:=⟨(List.replicate 4 (List.replicate 128 0)).set i k,w,false,false,0,n,wr,fl⟩
theorem pD_ok {i : Nat} {k : List Int} {w : List (Int × List Int)} {n wr fl : Int} (hk : k.length = 128) (hi : i < 4) (hw : w.length ≤ 1) (hl : ∀ x ∈ w,x.2.length = 128 ∧ x.1 = i) : okD (pD i k w n wr fl):=by
  refine ⟨by simp [pD],by simp [pD],fun s hs=>?_,fun x hx=>⟨(hl x hx).1,by rw [(hl x hx).2];omega,by rw [(hl x hx).2];simp [pD];omega⟩,by show w.length ≤ _;omega,by simp [pD],by simp [pD]⟩
  rcases List.mem_or_eq_of_mem_set hs with h|rfl
  · rw [List.eq_of_mem_replicate h];simp
  · exact hk
theorem set_sm (l : List (List Int)) (i : Nat) (a b : List Int) : (l.set i a).set i b = l.set i b:=List.set_set ..
theorem pD_get {i : Nat} (hi : i < 4) (k : List Int) : ((List.replicate 4 (List.replicate 128 (0 : Int))).set i k).getD i [] = k:=by
  simp [List.getD_eq_getElem?_getD,List.getElem?_set,hi]
theorem pD_wr {i : Nat} (k : List Int) (n wr fl : Int) (s : List Int) : wrD (pD i k [] n wr fl) i s = pD i k [(i,s)] n (IntKind.i64.wrap (wr + 1)) fl:=rfl
theorem pD_fl {i : Nat} (k : List Int) (n wr fl : Int) (s : List Int) : flD (pD i k [(i,s)] n wr fl) = pD i s [] n wr (IntKind.i64.wrap (fl + 1)):=by
  simp [flD,pD,applyW,putW]
theorem pD_rd {i : Nat} (k : List Int) (w : List (Int × List Int)) (n wr fl : Int) : rdD (pD i k w n wr fl) = pD i k w (IntKind.i64.wrap (n + 1)) wr fl:=rfl
theorem pD_cr {i : Nat} (k : List Int) (n wr fl : Int) (s : List Int) (b : Bool) : crD (pD i k [(i,s)] n wr fl) [b] = pD i (if b = true then s else k) [] n wr fl:=by
  cases b <;> simp [crD,pD,kpC,putW]
theorem pD_pk {i : Nat} (hi : i < 4) (k : List Int) (w : List (Int × List Int)) (n wr fl g : Int) (hw : ∀ x ∈ w,x.1 = i) : pokeD (pD i k w n wr fl) i g = pD i (turnL g k) (w.map fun x=>(x.1,turnL g x.2)) n wr fl:=by
  simp only [pokeD,pD,Int.toNat_natCast,pD_get hi,set_sm,Dk.mk.injEq,and_true,true_and]
  exact List.map_congr_left fun x hx=>by rw [turnW,if_pos (hw x hx)]
theorem pD_z {i : Nat} (hi : i < 4) : dk0 4 = pD i (List.replicate 128 0) [] 0 0 0:=by
  unfold dk0 pD
  congr 1
  rcases (show i = 0 ∨ i = 1 ∨ i = 2 ∨ i = 3 by omega) with rfl|rfl|rfl|rfl <;> rfl
theorem pD_read {i : Nat} (hi : i < 4) (k : List Int) (w : List (Int × List Int)) (n wr fl : Int) : readL (pD i k w n wr fl) i = lastW i k w:=by
  unfold readL
  show lastW _ (((List.replicate 4 (List.replicate 128 (0 : Int))).set i k).getD ((i : Int)).toNat []) w = _
  rw [Int.toNat_natCast,pD_get hi]
theorem pD_kl {i : Nat} (k : List Int) (w : List (Int × List Int)) (n wr fl : Int) : (pD i k w n wr fl).kept.length = 4:=by simp [pD]
end Go.Proofs.Ytcmnblgekcjpiaa.Am
