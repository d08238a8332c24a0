import Derived.Deep.Slices
import Derived.Deep.Fields
import Derived.ChangeSame
import Derived.OpenShut
import Derived.WalkKit
import Derived.ProofKit
import Derived.ShutString
import Derived.ChangeOld
import Derived.SizedLaws
import Derived.Test.YtleahjfgedfgmaaZAmB
set_option linter.unusedVariables false
set_option linter.unusedSimpArgs false
namespace Go.Proofs.Ytleahjfgedfgmaa.Am
open Go Go.RowKit Go.ChangeShapes Go.WideShapes Go.Deep
def RdC (w : World) (d : D) (cs : List Value) : Prop :=
  cs.length = d.cells.length ∧ (∀ u ∈ cs,u.oneCell' = true) ∧ ∀ (j : Nat) (x : D) (u : Value),d.cells[j]? = some x → cs[j]? = some u → Rd w (fun b=>b < w.heap.size) x u
def Op (P : Program) (t : TypeId) (n : Nat) (Wf : D → Prop) : Prop :=
  P.cellsOf t = n ∧ 0 < n ∧ ∀ (H : Type) (enc : TypeId × Value → H) (w : World) (fuel : Nat) (cs : List Value) (x : DataW H × List MemPlace),
    DataW.trod enc P w 0 (fun _=>true) true fuel t cs = some x → ∃ d,d.cells.length = n ∧ RdC w d cs ∧ Wf d
theorem Op.imp {P : Program} {t : TypeId} {n : Nat} {Wf Wf' : D → Prop} (h : Op P t n Wf) (hw : ∀ d,Wf d → Wf' d) : Op P t n Wf' :=
  ⟨h.1,h.2.1,fun H enc w fuel cs x hx=>let ⟨d,h1,h2,h3⟩:=h.2.2 H enc w fuel cs x hx;⟨d,h1,h2,hw d h3⟩⟩
theorem rdc_one {w : World} {d : D} {v : Value} (hd : d.cells = [d]) (h1 : v.oneCell' = true) (h : Rd w (fun b=>b < w.heap.size) d v) : RdC w d [v]:=by
  refine ⟨by rw [hd];rfl,by simpa using h1,fun j x u hx hu=>?_⟩
  rw [hd] at hx
  cases j with
  | zero=>simp at hx hu;subst hx;subst hu;exact h
  | succ j=>simp at hx
def wfI (d : D) : Prop:=∃ n : Int,d = .v (.int .i64 n) ∧ -9223372036854775808 ≤ n ∧ n < 9223372036854775808
def wfB (d : D) : Prop:=∃ n : Int,d = .v (.int .u8 n) ∧ 0 ≤ n ∧ n < 256
def wf32 (d : D) : Prop:=∃ n : Int,d = .v (.int .u32 n) ∧ 0 ≤ n ∧ n < 4294967296
def wfL (d : D) : Prop:=∃ b : Bool,d = .v (.bool b)
theorem lit_i64 {x : Int} (h : (Lit.int .i64 x).wf = true) : -9223372036854775808 ≤ x ∧ x < 9223372036854775808:=by
  simp [Lit.wf,IntKind.min,IntKind.max,IntKind.bits,IntKind.signed] at h
  omega
theorem lit_u8 {x : Int} (h : (Lit.int .u8 x).wf = true) : 0 ≤ x ∧ x < 256:=by
  simp [Lit.wf,IntKind.min,IntKind.max,IntKind.bits,IntKind.signed] at h
  omega
theorem lit_u32 {x : Int} (h : (Lit.int .u32 x).wf = true) : 0 ≤ x ∧ x < 4294967296:=by
  simp [Lit.wf,IntKind.min,IntKind.max,IntKind.bits,IntKind.signed] at h
  omega
theorem op_i64 {P : Program} {t : TypeId} (hu : P.underlying t = some (.int .i64)) (hc : P.cellsOf t = 1) : Op P t 1 wfI :=
  ⟨hc,by decide,fun H enc w fuel cs x h=>by obtain ⟨n,rfl,_,hw⟩:=DataW.trod_int hu h;exact ⟨_,rfl,rdc_one rfl rfl (.v _),n,rfl,lit_i64 hw⟩⟩
theorem op_u8 {P : Program} {t : TypeId} (hu : P.underlying t = some (.int .u8)) (hc : P.cellsOf t = 1) : Op P t 1 wfB :=
  ⟨hc,by decide,fun H enc w fuel cs x h=>by obtain ⟨n,rfl,_,hw⟩:=DataW.trod_int hu h;exact ⟨_,rfl,rdc_one rfl rfl (.v _),n,rfl,lit_u8 hw⟩⟩
theorem op_u32 {P : Program} {t : TypeId} (hu : P.underlying t = some (.int .u32)) (hc : P.cellsOf t = 1) : Op P t 1 wf32 :=
  ⟨hc,by decide,fun H enc w fuel cs x h=>by obtain ⟨n,rfl,_,hw⟩:=DataW.trod_int hu h;exact ⟨_,rfl,rdc_one rfl rfl (.v _),n,rfl,lit_u32 hw⟩⟩
theorem op_bool {P : Program} {t : TypeId} (hu : P.underlying t = some .bool) (hc : P.cellsOf t = 1) : Op P t 1 wfL :=
  ⟨hc,by decide,fun H enc w fuel cs x h=>by obtain ⟨n,rfl,_⟩:=DataW.trod_bool hu h;exact ⟨_,rfl,rdc_one rfl rfl (.v _),n,rfl⟩⟩
def wfS (Wf : D → Prop) (d : D) : Prop:=∃ l : List D,d = .list l ∧ l.length ≤ 9223372036854775807 ∧ ∀ x ∈ l,Wf x
theorem choose_list {α : Type} (Q : Nat → α → Prop) : ∀ n : Nat,(∀ i,i < n → ∃ v,Q i v) → ∃ l : List α,l.length = n ∧ ∀ (i : Nat) (v : α),l[i]? = some v → Q i v
  | 0,_=>⟨[],rfl,fun i v h=>by simp at h⟩
  | n + 1,h=>by
    obtain ⟨l,hl,hq⟩:=choose_list Q n (fun i hi=>h i (by omega))
    obtain ⟨v,hv⟩:=h n (by omega)
    refine ⟨l ++ [v],by simp [hl],fun i u hu=>?_⟩
    by_cases hi : i < l.length
    · rw [List.getElem?_append_left hi] at hu
      exact hq i u hu
    · rw [List.getElem?_append_right (by omega)] at hu
      have : i - l.length = 0:=by
        rcases Nat.eq_zero_or_pos (i - l.length) with h0|h0
        · exact h0
        · rw [List.getElem?_eq_none (by simp;omega)] at hu;cases hu
      rw [this] at hu
      simp at hu
      subst hu
      rwa [show i = n by omega]
theorem op_slice {P : Program} {t e : TypeId} {n : Nat} {Wf : D → Prop} (hu : P.underlying t = some (.slice e)) (hc : P.cellsOf t = 1) (h : Op P e n Wf) : Op P t 1 (wfS Wf):=by
  refine ⟨hc,by decide,fun H enc w fuel cs x hx=>?_⟩
  rcases open_slice hu hx with ⟨rfl,_⟩|⟨a,len,cap,m,q,D0,Pl,rfl,_,hl,hm,hmm,_,hi⟩
  · exact ⟨.list [],rfl,rdc_one rfl rfl (.nil _ _),[],rfl,by simp,by simp⟩
  · simp only [if_true] at hmm
    subst hmm
    have h0 : len ≤ 9223372036854775807:=by
      have e : maxLen = 9223372036854775807:=by decide
      omega
    obtain ⟨l,hll,hq⟩:=choose_list (fun i d=>∃ cs',w.cells? 0 (a.add (i * P.cellsOf e)) (P.cellsOf e) = some cs' ∧ d.cells.length = n ∧ RdC w d cs' ∧ Wf d) len (fun i hil=>by
      obtain ⟨cs',h1,h2⟩:=hi i (by omega)
      obtain ⟨v,h3,h4,h5⟩:=h.2.2 H enc w q cs' _ h2
      exact ⟨v,cs',h1,h3,h4,h5⟩)
    have hwf : ∀ x ∈ l,Wf x:=by
      intro x hx
      obtain ⟨i,hil,rfl⟩:=List.getElem_of_mem hx
      obtain ⟨_,_,_,_,hw⟩:=hq i _ (List.getElem?_eq_getElem hil)
      exact hw
    have hcl : ∀ d ∈ l,d.cells.length = n:=by
      intro d hd
      obtain ⟨i,hil,rfl⟩:=List.getElem_of_mem hd
      obtain ⟨_,_,hw,_⟩:=hq i _ (List.getElem?_eq_getElem hil)
      exact hw
    refine ⟨.list l,rfl,rdc_one rfl rfl ?_,l,rfl,by omega,hwf⟩
    by_cases hlen : len = 0
    · subst hlen
      have : l = []:=List.eq_nil_of_length_eq_zero hll
      subst this
      exact .nil _ _
    · have hat : ∀ i,i < len → ∃ cs',cs'.length = n ∧ RdC w (l.getD i (.v undef)) cs' ∧ ∀ j,j < n → w.cell? (a.add (i * n + j)) = cs'[j]?:=by
        intro i hil
        have hli : l[i]? = some (l.getD i (.v undef)):=by
          have : i < l.length:=by omega
          simp [List.getD_eq_getElem?_getD,this]
        obtain ⟨cs',h1,h2,h3,h4⟩:=hq i _ hli
        obtain ⟨_,hlen,hat⟩:=World.cells?_some h1
        rw [h.1] at hlen hat
        exact ⟨cs',hlen,h3,fun j hj=>by rw [← Go.Deep.add_add];exact hat j hj⟩
      have hspot : a.spot = none:=by
        obtain ⟨cs',h1,h2,h3⟩:=hat 0 (by omega)
        have h4:=h3 0 h.2.1
        have h5 : cs'[0]? = some (cs'[0]'(by have:=h.2.1;omega)):=by simp
        rw [h5] at h4
        have : a.add (0 * n + 0) = a:=by simp [Addr.add]
        rw [this] at h4
        cases hs : a.spot with
        | none=>rfl
        | some s =>
          unfold World.cell? at h4
          split at h4
          · simp [hs] at h4
          · cases h4
      have ha : a = ⟨a.block,a.off,none⟩:=by cases a;simp_all
      have hblk : a.block < w.heap.size:=by
        obtain ⟨cs',h1,h2,h3⟩:=hat 0 (by omega)
        have h4:=h3 0 h.2.1
        have h5 : cs'[0]? = some (cs'[0]'(by have:=h.2.1;omega)):=by simp
        rw [h5] at h4
        have h6:=World.block_lt_of_cell? w _ h4
        have : (a.add (0 * n + 0)).block = a.block:=by simp [Addr.add]
        rwa [this] at h6
      have hcs : ∀ i j,i < len → j < n → ∃ u,w.cell? ⟨a.block,a.off + (i * n + j),none⟩ = some u ∧ u.oneCell' = true ∧ ∀ x,(l.getD i (.v undef)).cells[j]? = some x → Rd w (fun b=>b < w.heap.size) x u:=by
        intro i j hil hj
        obtain ⟨cs',h1,h2,h3⟩:=hat i hil
        have h4:=h3 j hj
        have h5 : cs'[j]? = some (cs'[j]'(by omega)):=by simp
        rw [h5,ha,Addr.add_lit] at h4
        exact ⟨_,h4,h2.2.1 _ (List.getElem_mem (by omega)),fun x hx=>h2.2.2 j x _ hx h5⟩
      obtain ⟨vals,hv⟩ : ∃ vals : Nat → Value,vals = fun k=>(w.cell? ⟨a.block,a.off + k,none⟩).getD undef:=⟨_,rfl⟩
      have hdm : ∀ k,k < l.length * n → k / n < len ∧ k % n < n ∧ k / n * n + k % n = k:=by
        intro k hk
        refine ⟨?_,Nat.mod_lt _ h.2.1,by rw [Nat.mul_comm];exact Nat.div_add_mod k n⟩
        rw [← hll]
        exact Nat.div_lt_of_lt_mul (by rw [Nat.mul_comm];exact hk)
      rw [ha,← hll]
      refine Rd.list l n a.block a.off m vals (by omega) hblk h.2.1 hcl (fun k hk=>?_) (fun k hk=>?_) (fun i j d x hd hx=>?_)
      · obtain ⟨q1,q2,q3⟩:=hdm k hk
        obtain ⟨u,hu1,_⟩:=hcs _ _ q1 q2
        rw [q3] at hu1
        rw [hv];simp only [hu1,Option.getD_some]
      · obtain ⟨q1,q2,q3⟩:=hdm k hk
        obtain ⟨u,hu1,hu2,_⟩:=hcs _ _ q1 q2
        rw [q3] at hu1
        rw [hv];simp only [hu1,Option.getD_some];exact hu2
      · have hil : i < len:=by rw [← hll];exact (List.getElem?_eq_some_iff.1 hd).1
        have hj : j < n:=by rw [← hcl d (List.mem_of_getElem? hd)];exact (List.getElem?_eq_some_iff.1 hx).1
        obtain ⟨u,hu1,_,hu3⟩:=hcs i j hil hj
        have : l.getD i (.v undef) = d:=by rw [List.getD_eq_getElem?_getD,hd];rfl
        rw [this] at hu3
        rw [hv];simp only [hu1,Option.getD_some];exact hu3 x hx
theorem struct_cells {H : Type} {enc : TypeId × Value → H} {P : Program} {w : World} {t : TypeId} {fs : Array Field} {fuel : Nat} {cs : List Value} {x : DataW H × List MemPlace}
    (hu : P.underlying t = some (.struct fs)) (hone : Go.Deep.oneCellFields P fs = true) (hC : P.cellsOf t = fs.size) (h : DataW.trod enc P w 0 (fun _=>true) true fuel t cs = some x) :
    cs.length = fs.size ∧ ∀ (j : Nat) (f : Field),fs[j]? = some f → ∃ (v : Value) (n : Nat) (y : DataW H × List MemPlace),cs[j]? = some v ∧ DataW.trod enc P w 0 (fun _=>true) true n f.type [v] = some y:=by
  obtain ⟨ys,n,_,_,hlen,hyl,hf⟩:=DataW.trod_struct hu h
  refine ⟨hlen.trans hC,fun j f hj=>?_⟩
  obtain ⟨ho,hk⟩:=Go.Deep.hone_of hone j f hj
  have hjl : j < fs.size:=(Array.getElem?_eq_some_iff.1 hj).1
  have hcl : j < cs.length:=by omega
  have h1:=hf j f hj
  rw [ho,hk] at h1
  have e : (cs.drop j).take 1 = [cs[j]]:=by
    rw [List.drop_eq_getElem_cons hcl];rfl
  rw [e,List.getElem?_eq_getElem (show j < ys.length by omega)] at h1
  exact ⟨cs[j],n,_,List.getElem?_eq_getElem hcl,h1⟩
def wfF (Wfs : List (D → Prop)) (d : D) : Prop:=∃ ds : List D,d = .agg ds ∧ ds.length = Wfs.length ∧ ∀ (j : Nat) (x : D) (Wf : D → Prop),ds[j]? = some x → Wfs[j]? = some Wf → Wf x
theorem op_struct {P : Program} {t : TypeId} {fs : Array Field} {Wfs : List (D → Prop)} (hu : P.underlying t = some (.struct fs)) (hone : Go.Deep.oneCellFields P fs = true) (hC : P.cellsOf t = fs.size) (h0 : 0 < fs.size) (hn : Wfs.length = fs.size)
    (hf : ∀ (j : Nat) (f : Field) (Wf : D → Prop),fs[j]? = some f → Wfs[j]? = some Wf → Op P f.type 1 (fun d=>Wf d ∧ d.cells = [d])) : Op P t fs.size (wfF Wfs):=by
  refine ⟨hC,h0,fun H enc w fuel cs x hx=>?_⟩
  obtain ⟨hl,hg⟩:=struct_cells hu hone hC hx
  obtain ⟨ds,hdl,hq⟩:=choose_list (fun j d=>∃ v,cs[j]? = some v ∧ d.cells = [d] ∧ v.oneCell' = true ∧ Rd w (fun b=>b < w.heap.size) d v ∧ ∀ Wf,Wfs[j]? = some Wf → Wf d) fs.size (fun j hj=>by
    obtain ⟨v,q,y,h1,h2⟩:=hg j fs[j] (by simp)
    obtain ⟨Wf,hWf⟩ : ∃ Wf,Wfs[j]? = some Wf:=⟨Wfs[j]'(by omega),by simp⟩
    obtain ⟨d,h3,h4,h5,h6⟩:=(hf j fs[j] Wf (by simp) hWf).2.2 H enc w q [v] y h2
    refine ⟨d,v,h1,h6,h4.2.1 v (by simp),h4.2.2 0 d v (by rw [h6];rfl) rfl,fun Wf' hW=>?_⟩
    obtain rfl : Wf = Wf':=Option.some.inj (hWf.symm.trans hW)
    exact h5)
  refine ⟨.agg ds,hdl,⟨by rw [hl];exact hdl.symm,fun u hu=>?_,fun j x u hx hu=>?_⟩,ds,rfl,by omega,fun j x Wf hx hW=>?_⟩
  · obtain ⟨j,hj,rfl⟩:=List.mem_iff_getElem.1 hu
    have hjd : j < ds.length:=by omega
    obtain ⟨v,h1,_,h2,_⟩:=hq j ds[j] (by simp)
    have : cs[j]? = some cs[j]:=by simp
    rw [this] at h1
    cases h1
    exact h2
  · obtain ⟨v,h1,_,_,h2,_⟩:=hq j x hx
    rw [h1] at hu
    cases hu
    exact h2
  · obtain ⟨v,_,_,_,_,h2⟩:=hq j x hx
    exact h2 Wf hW
def OpV (P : Program) (t : TypeId) (Wf : D → Prop) : Prop :=
  ∀ (H : Type) (enc : TypeId × Value → H) (w : World) (r : Reach) (b0 : Nat) (v : Value) (d : DataW H) (ps : List MemPlace),Value.okWide P w r b0 t v → DataW.Trod enc P w 0 (fun _=>true) true t v d ps → ∃ x,Rd w (fun b=>b < w.heap.size) x v ∧ Wf x
theorem opv_struct {P : Program} {t : TypeId} {fs : Array Field} {n : Nat} {Wfs : List (D → Prop)} (hu : P.underlying t = some (.struct fs)) (h : Op P t n (wfF Wfs)) : OpV P t (wfF Wfs):=by
  intro H enc w r b0 v d ps hok ht
  obtain ⟨cs,rfl,hz⟩:=okWide_struct hu hok
  obtain ⟨fuel,hf⟩:=ht
  obtain ⟨d,h1,h2,h3⟩:=h.2.2 H enc w fuel _ _ hf
  obtain ⟨ds,rfl,h4,h5⟩:=h3
  refine ⟨.agg ds,.agg _ _ ?_ (fun j y hy=>h2.2.1 y ?_) (fun j x y hx hy=>h2.2.2 j x y hx ?_),ds,rfl,h4,h5⟩
  · have:=h2.1;simpa [Value.cells,D.cells] using this
  · exact List.mem_of_getElem? (i:=j) (by simpa [Value.cells] using hy)
  · simpa [Value.cells] using hy
theorem opv_one {P : Program} {t : TypeId} {n : Nat} {Wf : D → Prop} (h : Op P t n (fun d=>Wf d ∧ d.cells = [d])) (hv : ∀ w r b0 v,Value.okWide P w r b0 t v → v.oneCell' = true) : OpV P t Wf:=by
  intro H enc w r b0 v d ps hok ht
  obtain ⟨fuel,hf⟩:=ht
  have h1:=hv _ _ _ _ hok
  have hc : v.cells.toList = [v]:=by cases v <;> simp [Value.oneCell'] at h1 <;> rfl
  rw [hc] at hf
  obtain ⟨d,_,h2,h3,h4⟩:=h.2.2 H enc w fuel _ _ hf
  exact ⟨d,h2.2.2 0 d v (by rw [h4];rfl) rfl,h3⟩
theorem opv_i64 {P : Program} {t : TypeId} (hu : P.underlying t = some (.int .i64)) (hc : P.cellsOf t = 1) : OpV P t wfI:=by
  intro H enc w r b0 v d ps hok ht
  obtain ⟨n,rfl,_,_,hw⟩:=open_int hu hok ht
  exact ⟨_,.v _,n,rfl,lit_i64 hw⟩
theorem opv_u8 {P : Program} {t : TypeId} (hu : P.underlying t = some (.int .u8)) (hc : P.cellsOf t = 1) : OpV P t wfB:=by
  intro H enc w r b0 v d ps hok ht
  obtain ⟨n,rfl,_,_,hw⟩:=open_int hu hok ht
  exact ⟨_,.v _,n,rfl,lit_u8 hw⟩
theorem opv_u32 {P : Program} {t : TypeId} (hu : P.underlying t = some (.int .u32)) (hc : P.cellsOf t = 1) : OpV P t wf32:=by
  intro H enc w r b0 v d ps hok ht
  obtain ⟨n,rfl,_,_,hw⟩:=open_int hu hok ht
  exact ⟨_,.v _,n,rfl,lit_u32 hw⟩
theorem opv_bool {P : Program} {t : TypeId} (hu : P.underlying t = some .bool) (hc : P.cellsOf t = 1) : OpV P t wfL:=by
  intro H enc w r b0 v d ps hok ht
  obtain ⟨b,rfl,_,_⟩:=open_bool hu hok ht
  exact ⟨_,.v _,b,rfl⟩
theorem opv_slice {P : Program} {t e : TypeId} {n : Nat} {Wf : D → Prop} (hu : P.underlying t = some (.slice e)) (h : Op P t n (wfS Wf)) : OpV P t (wfS Wf):=by
  refine opv_one (h.imp fun d hd=>⟨hd,?_⟩) fun w r b0 v hok=>?_
  · obtain ⟨l,rfl,_⟩:=hd;rfl
  · obtain ⟨a,len,cap,rfl⟩:=okWide_slice hu hok
    rfl
theorem law_calls {P : Program} {f : FuncId} {Sp : List D → Out → Prop} (h : Good P f Sp) {ds : List D} (hs : Sp ds ⟨.d (.v (.bool true)),[]⟩) {args : Array Value} {w : World} (hl : args.size = ds.length) (hr : ∀ (i : Nat) (d : D) (y : Value),ds[i]? = some d → args[i]? = some y → Rd w (fun b=>b < w.heap.size) d y) :
    Calls P f args w fun e w'=>e = .returned (.bool true) ∧ Below w.heap.size w w':=by
  refine (h ds _ hs (fun _=>True) args w hl fun i d y h1 h2=>(hr i d y h1 h2).mono (fun _ _=>rfl) (fun b hb=>⟨trivial,hb⟩)).mono ?_
  rintro e w' ⟨y,rfl,φ,h1,h2⟩
  cases h2 with
  | d _ _ h2=>cases h2;exact ⟨rfl,h1.below.below⟩
end Go.Proofs.Ytleahjfgedfgmaa.Am
