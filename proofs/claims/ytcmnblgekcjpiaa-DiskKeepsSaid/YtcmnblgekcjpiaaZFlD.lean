import Derived.Test.YtcmnblgekcjpiaaZFlS0
import Derived.Test.YtcmnblgekcjpiaaZDC
set_option linter.unusedVariables false
set_option linter.unusedSimpArgs false
set_option maxRecDepth 10000
namespace Go.Proofs.Ytcmnblgekcjpiaa.Am
open Go Go.RowKit Go.Proofs
theorem wf_Ls {d : D} (h : wfS wfL d) : ∃ l : List Bool,d = .list (l.map bD) ∧ l.length ≤ 9223372036854775807:=by
  obtain ⟨ds,rfl,hl,hf⟩:=h
  have key : ∀ ds : List D,(∀ x ∈ ds,wfL x) → ∃ l : List Bool,ds = l.map bD:=by
    intro ds
    induction ds with
    | nil=>exact fun _=>⟨[],rfl⟩
    | cons a r ih =>
      intro h
      obtain ⟨e,rfl⟩:=h a (List.mem_cons_self ..)
      obtain ⟨l,rfl⟩:=ih fun x hx=>h x (List.mem_cons_of_mem _ hx)
      exact ⟨e :: l,rfl⟩
  obtain ⟨l,rfl⟩:=key ds hf
  exact ⟨l,rfl,by simpa using hl⟩
theorem opvLs : OpV Try.prog 39 (wfS wfL):=opv_slice Try.underlying39 (op_slice Try.underlying39 (by kernel_rfl) (op_bool Try.underlying4 (by kernel_rfl)))
theorem wf_Is {d : D} (h : wfS wfI d) : ∃ l : List Int,d = .list (l.map mI) ∧ l.length ≤ 9223372036854775807:=by
  obtain ⟨ds,rfl,hl,hf⟩:=h
  have key : ∀ ds : List D,(∀ x ∈ ds,wfI x) → ∃ l : List Int,ds = l.map mI:=by
    intro ds
    induction ds with
    | nil=>exact fun _=>⟨[],rfl⟩
    | cons a r ih =>
      intro h
      obtain ⟨e,rfl,_⟩:=h a (List.mem_cons_self ..)
      obtain ⟨l,rfl⟩:=ih fun x hx=>h x (List.mem_cons_of_mem _ hx)
      exact ⟨e :: l,rfl⟩
  obtain ⟨l,rfl⟩:=key ds hf
  exact ⟨l,rfl,by simpa using hl⟩
theorem opvIs : OpV Try.prog 22 (wfS wfI):=opv_slice Try.underlying22 (op_slice Try.underlying22 (by kernel_rfl) (op_i64 Try.underlying3 (by kernel_rfl)))
end Go.Proofs.Ytcmnblgekcjpiaa.Am
