import Derived.Test.YtcmnblgekcjpiaaZAm14
import Derived.Test.YtcmnblgekcjpiaaZFA
set_option linter.unusedVariables false
set_option linter.unusedSimpArgs false
set_option maxRecDepth 10000
namespace Go.Proofs.Ytcmnblgekcjpiaa.Am
open Go Go.RowKit Go.Proofs
theorem opi : Op Try.prog 3 1 (fun d=>wfI d ∧ d.cells = [d]):=(op_i64 Try.underlying3 (by kernel_rfl)).imp fun d h=>⟨h,by obtain ⟨n,rfl,_⟩:=h;rfl⟩
theorem opvi : OpV Try.prog 3 wfI:=opv_i64 Try.underlying3 (by kernel_rfl)
theorem opvL : OpV Try.prog 4 wfL:=opv_bool Try.underlying4 (by kernel_rfl)
theorem wf_Bs {d : D} (h : wfS wfB d) : ∃ l : List Int,d = .list (l.map mB) ∧ Byt l ∧ l.length ≤ 9223372036854775807:=by
  obtain ⟨ds,rfl,hl,hf⟩:=h
  have key : ∀ ds : List D,(∀ x ∈ ds,wfB x) → ∃ l : List Int,ds = l.map mB ∧ Byt l:=by
    intro ds
    induction ds with
    | nil=>exact fun _=>⟨[],rfl,byt_nil⟩
    | cons a r ih =>
      intro h
      obtain ⟨n,rfl,h0,h1⟩:=h a (List.mem_cons_self ..)
      obtain ⟨l,rfl,hb⟩:=ih fun x hx=>h x (List.mem_cons_of_mem _ hx)
      exact ⟨n :: l,rfl,byt_cons ⟨h0,h1⟩ hb⟩
  obtain ⟨l,rfl,hb⟩:=key ds hf
  exact ⟨l,rfl,hb,by simpa using hl⟩
theorem op5 : Op Try.prog 5 1 (fun d=>wfB d ∧ d.cells = [d]):=(op_u8 Try.underlying5 (by kernel_rfl)).imp fun d h=>⟨h,by obtain ⟨n,rfl,_⟩:=h;rfl⟩
theorem opBs : Op Try.prog 32 1 (wfS wfB):=op_slice Try.underlying32 (by kernel_rfl) (op_u8 Try.underlying5 (by kernel_rfl))
theorem opvBs : OpV Try.prog 32 (wfS wfB):=opv_slice Try.underlying32 opBs
theorem opv5 : OpV Try.prog 5 wfB:=opv_u8 Try.underlying5 (by kernel_rfl)
end Go.Proofs.Ytcmnblgekcjpiaa.Am
