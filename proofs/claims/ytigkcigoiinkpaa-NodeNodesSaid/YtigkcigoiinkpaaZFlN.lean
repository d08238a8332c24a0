import Derived.Test.YtigkcigoiinkpaaZFlS0
import Derived.Test.YtigkcigoiinkpaaZN3
set_option linter.unusedVariables false
set_option linter.unusedSimpArgs false
set_option maxRecDepth 10000
namespace Go.Proofs.Ytigkcigoiinkpaa.Am
open Go Go.RowKit Go.Proofs
def wfLn : D → Prop:=wfF [wfI,wfI,wfI]
theorem wf_Ln {d : D} (h : wfLn d) : ∃ e : Ln,d = lD e:=by
  obtain ⟨ds,rfl,hl,hf⟩:=h
  match ds,hl with
  | [a,b,c],_ =>
    obtain ⟨n0,rfl,l0,u0⟩:=hf 0 a wfI rfl rfl
    obtain ⟨n1,rfl,l1,u1⟩:=hf 1 b wfI rfl rfl
    obtain ⟨n2,rfl,l2,u2⟩:=hf 2 c wfI rfl rfl
    exact ⟨⟨n0,n1,n2⟩,rfl⟩
theorem wf_Lns {d : D} (h : wfS wfLn d) : ∃ l : List Ln,d = .list (l.map lD) ∧ l.length ≤ 9223372036854775807:=by
  obtain ⟨ds,rfl,hl,hf⟩:=h
  have key : ∀ ds : List D,(∀ x ∈ ds,wfLn x) → ∃ l : List Ln,ds = l.map lD:=by
    intro ds
    induction ds with
    | nil=>exact fun _=>⟨[],rfl⟩
    | cons a r ih =>
      intro h
      obtain ⟨e,rfl⟩:=wf_Ln (h a (List.mem_cons_self ..))
      obtain ⟨l,rfl⟩:=ih fun x hx=>h x (List.mem_cons_of_mem _ hx)
      exact ⟨e :: l,rfl⟩
  obtain ⟨l,rfl⟩:=key ds hf
  exact ⟨l,rfl,by simpa using hl⟩
theorem opSLn : Op Try.prog 30 3 wfLn:=by
  refine op_struct Try.underlying30 (by kernel_rfl) (by kernel_rfl) (by decide) rfl ?_
  intro j f Wf h1 h2
  match j,h1,h2 with
  | 0,h1,h2=>cases h1;cases h2;exact opi
  | 1,h1,h2=>cases h1;cases h2;exact opi
  | 2,h1,h2=>cases h1;cases h2;exact opi
  | n + 3,h1,h2=>simp at h2
theorem opvLns : OpV Try.prog 22 (wfS wfLn):=opv_slice Try.underlying22 (op_slice Try.underlying22 (by kernel_rfl) opSLn)
def wfPa : D → Prop:=wfF [wfI,wfI]
theorem wf_Pa {d : D} (h : wfPa d) : ∃ e : Pa,d = pD e:=by
  obtain ⟨ds,rfl,hl,hf⟩:=h
  match ds,hl with
  | [a,b],_ =>
    obtain ⟨n0,rfl,l0,u0⟩:=hf 0 a wfI rfl rfl
    obtain ⟨n1,rfl,l1,u1⟩:=hf 1 b wfI rfl rfl
    exact ⟨⟨n0,n1⟩,rfl⟩
theorem wf_Pas {d : D} (h : wfS wfPa d) : ∃ l : List Pa,d = .list (l.map pD) ∧ l.length ≤ 9223372036854775807:=by
  obtain ⟨ds,rfl,hl,hf⟩:=h
  have key : ∀ ds : List D,(∀ x ∈ ds,wfPa x) → ∃ l : List Pa,ds = l.map pD:=by
    intro ds
    induction ds with
    | nil=>exact fun _=>⟨[],rfl⟩
    | cons a r ih =>
      intro h
      obtain ⟨e,rfl⟩:=wf_Pa (h a (List.mem_cons_self ..))
      obtain ⟨l,rfl⟩:=ih fun x hx=>h x (List.mem_cons_of_mem _ hx)
      exact ⟨e :: l,rfl⟩
  obtain ⟨l,rfl⟩:=key ds hf
  exact ⟨l,rfl,by simpa using hl⟩
theorem opSPa : Op Try.prog 99 2 wfPa:=by
  refine op_struct Try.underlying99 (by kernel_rfl) (by kernel_rfl) (by decide) rfl ?_
  intro j f Wf h1 h2
  match j,h1,h2 with
  | 0,h1,h2=>cases h1;cases h2;exact opi
  | 1,h1,h2=>cases h1;cases h2;exact opi
  | n + 2,h1,h2=>simp at h2
theorem opvPas : OpV Try.prog 56 (wfS wfPa):=opv_slice Try.underlying56 (op_slice Try.underlying56 (by kernel_rfl) opSPa)
theorem wf_Is {d : D} (h : wfS wfI d) : ∃ l : List Int,d = .list (l.map mI) ∧ l.length ≤ 9223372036854775807:=by
  obtain ⟨ds,rfl,hl,hf⟩:=h
  have key : ∀ ds : List D,(∀ x ∈ ds,wfI x) → ∃ l : List Int,ds = l.map mI:=by
    intro ds
    induction ds with
    | nil=>exact fun _=>⟨[],rfl⟩
    | cons a r ih =>
      intro h
      obtain ⟨e,rfl,_⟩:=h a (List.mem_cons_self ..)
      obtain ⟨l,rfl⟩:=ih fun x hx=>h x (List.mem_cons_of_mem _ hx)
      exact ⟨e :: l,rfl⟩
  obtain ⟨l,rfl⟩:=key ds hf
  exact ⟨l,rfl,by simpa using hl⟩
theorem opvIs : OpV Try.prog 50 (wfS wfI):=opv_slice Try.underlying50 (op_slice Try.underlying50 (by kernel_rfl) (op_i64 Try.underlying3 (by kernel_rfl)))
end Go.Proofs.Ytigkcigoiinkpaa.Am
