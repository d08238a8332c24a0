import Derived.Test.YtleahjfgedfgmaaZFlB
import Derived.Test.YtleahjfgedfgmaaZGA
set_option linter.unusedVariables false
set_option linter.unusedSimpArgs false
set_option maxRecDepth 10000
namespace Go.Proofs.Ytleahjfgedfgmaa.Am
open Go Go.RowKit Go.Proofs
def wfX : D → Prop:=wfF [wfI,wfI,wfI,wfI,wfI]
theorem wf_X {d : D} (h : wfX d) : ∃ e : Xt,d = eD e ∧ numE e:=by
  obtain ⟨ds,rfl,hl,hf⟩:=h
  match ds,hl with
  | [a,b,c,d,e],_ =>
    obtain ⟨n0,rfl,l0,u0⟩:=hf 0 a wfI rfl rfl
    obtain ⟨n1,rfl,l1,u1⟩:=hf 1 b wfI rfl rfl
    obtain ⟨n2,rfl,l2,u2⟩:=hf 2 c wfI rfl rfl
    obtain ⟨n3,rfl,l3,u3⟩:=hf 3 d wfI rfl rfl
    obtain ⟨n4,rfl,l4,u4⟩:=hf 4 e wfI rfl rfl
    exact ⟨⟨n0,n1,n2,n3,n4⟩,rfl,by unfold numE;dsimp only;omega⟩
theorem wf_Xs {d : D} (h : wfS wfX d) : ∃ l : List Xt,d = .list (l.map eD) ∧ l.length ≤ 9223372036854775807 ∧ ∀ e ∈ l,numE e:=by
  obtain ⟨ds,rfl,hl,hf⟩:=h
  have key : ∀ ds : List D,(∀ x ∈ ds,wfX x) → ∃ l : List Xt,ds = l.map eD ∧ ∀ e ∈ l,numE e:=by
    intro ds
    induction ds with
    | nil=>exact fun _=>⟨[],rfl,fun e h=>by cases h⟩
    | cons a r ih =>
      intro h
      obtain ⟨e,rfl,he⟩:=wf_X (h a (List.mem_cons_self ..))
      obtain ⟨l,rfl,hl⟩:=ih fun x hx=>h x (List.mem_cons_of_mem _ hx)
      refine ⟨e :: l,rfl,fun x hx=>?_⟩
      rcases List.mem_cons.1 hx with rfl|hx
      · exact he
      · exact hl x hx
  obtain ⟨l,rfl,h⟩:=key ds hf
  exact ⟨l,rfl,by simpa using hl,h⟩
theorem op36 : Op Try.prog 25 5 wfX:=by
  refine op_struct Try.underlying25 (by kernel_rfl) (by kernel_rfl) (by decide) rfl ?_
  intro j f Wf h1 h2
  match j,h1,h2 with
  | 0,h1,h2=>cases h1;cases h2;exact opi
  | 1,h1,h2=>cases h1;cases h2;exact opi
  | 2,h1,h2=>cases h1;cases h2;exact opi
  | 3,h1,h2=>cases h1;cases h2;exact opi
  | 4,h1,h2=>cases h1;cases h2;exact opi
  | n + 5,h1,h2=>simp at h2
theorem op22 : Op Try.prog 22 1 (fun d=>wfS wfX d ∧ d.cells = [d]):=(op_slice Try.underlying22 (by kernel_rfl) op36).imp fun d h=>⟨h,by obtain ⟨l,rfl,_⟩:=h;rfl⟩
theorem op22' : Op Try.prog 22 1 (wfS wfX):=op_slice Try.underlying22 (by kernel_rfl) op36
theorem opv22 : OpV Try.prog 22 (wfS wfX):=opv_slice Try.underlying22 op22'
end Go.Proofs.Ytleahjfgedfgmaa.Am
