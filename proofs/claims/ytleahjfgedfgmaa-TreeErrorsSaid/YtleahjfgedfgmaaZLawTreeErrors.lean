import Derived.Test.YtleahjfgedfgmaaRows
import Derived.Test.YtleahjfgedfgmaaZQTe
import Derived.Test.YtleahjfgedfgmaaZFlX
set_option linter.unusedVariables false
set_option linter.unusedSimpArgs false
namespace Go.Proofs.Ytleahjfgedfgmaa.Am
open Go Go.RowKit Go.Proofs
theorem sp_TreeErrors (x0 x1 : D) (wf0 : wfS wfX x0) (wf1 : wfI x1) : Sp_overdublaw19_TreeErrors [x0,x1] ⟨.d (.v (.bool true)),[]⟩:=by
  obtain ⟨l,rfl,h1,h2⟩:=wf_Xs wf0
  obtain ⟨b,rfl,_⟩:=wf1
  exact ⟨l,b,rfl,h1,h2,rfl⟩
end Go.Proofs.Ytleahjfgedfgmaa.Am
namespace Go.Proofs.Ytleahjfgedfgmaa.treeErrors
open Go Go.ChangeShapes Go.WideShapes Go.ChangeAt Go.RowKit Go.Proofs Go.Proofs.Ytleahjfgedfgmaa.Am
set_option linter.unusedVariables false
theorem own : ownKnob Try.prog.godebug = none:=by kernel_rfl
theorem laidOut : laidOutB Try.prog = true:=by kernel_rfl
set_option maxRecDepth 100000 in
theorem lifted (os : Os) (started : os.Started) (H : Type) (enc : TypeId × Value → H) :
    ReturnsInHanded {} Try.checked os 6 .any (Rows.treeErrorsSpec.pre6 enc Try.prog Try.f6 Rows.treeErrorsRow.domain false) (Rows.treeErrorsSpec.post enc Try.prog Try.f6 false true false false):=by
  refine returnsInHanded_of_change_sized (C:=Try.checked) own started (by kernel_rfl) Try.func6
    (ChangeSpec.witness6 (enc:=enc) (C:=Try.checked) false ⟨#[],#[.slice none 0 0,.int .i64 0],[]⟩ 8 (by kernel_rfl) (by kernel_rfl) (by kernel_rfl) (by kernel_rfl)) ?_
  intro W base args ds gs before hval0 hW hcnd hsz0 _
  have hval : ∀ (j : Nat) t v,Try.f6.params[j]? = some t → args[j]? = some v → Value.okWide Try.prog W .any base t v:=hval0
  have hW':=hW
  obtain ⟨p,q,hA0,hV,rfl,hfz,hnd⟩:=hW
  have hA : DataW.TrodAll enc Try.prog W 0 (fun _=>true) true Try.f6.params.toList args.toList ds p:=hA0
  rw [Try.params6] at hA hval
  obtain ⟨v0,vs0,d0,ds0,p0,q0,hargs,rfl,rfl,h0,r0⟩:=trodAll_cons hA
  obtain ⟨v1,vs1,d1,ds1,p1,q1,rfl,rfl,rfl,h1,r1⟩:=trodAll_cons r0
  obtain ⟨rfl,rfl,rfl⟩:=trodAll_nil r1
  obtain rfl : args = #[v0,v1]:=by cases args;simp_all
  obtain ⟨rfl,rfl⟩:=trodVars_none hV
  have lt0 : ∀ x ∈ p0,x.block < W.heap.size:=by obtain ⟨m,hm⟩:=h0;exact DataW.trod_lt m _ _ _ hm
  obtain ⟨x0,rd0,wf0⟩:=opv22 H enc W _ _ v0 d0 p0 (hval 0 22 v0 rfl rfl) h0
  have lt1 : ∀ x ∈ p1,x.block < W.heap.size:=by obtain ⟨m,hm⟩:=h1;exact DataW.trod_lt m _ _ _ hm
  obtain ⟨x1,rd1,wf1⟩:=opvi H enc W _ _ v1 d1 p1 (hval 1 3 v1 rfl rfl) h1
  have hP:=sp_TreeErrors x0 x1 wf0 wf1
  refine (law_calls good_overdublaw19_TreeErrors hP (args:=#[v0,v1]) (w:=W) rfl ?_).mono fun e W' hpost=>?_
  · intro i d y h1 h2
    match i,h1,h2 with
    | 0,h1,h2=>cases h1;cases h2;exact rd0
    | 1,h1,h2=>cases h1;cases h2;exact rd1
    | k + 2,h1,h2=>simp at h1
  · obtain ⟨rfl,bel⟩:=hpost
    exact ⟨_,rfl,_,_,_,[],_,[],hW',trodAll_mk1 (shut_bool Try.underlying4 _),(trodAll_cons_mk (Below.trod laidOut (by kernel_rfl) (of_decide_eq_true (by kernel_rfl)) h0 bel lt0) (trodAll_cons_mk (Below.trod laidOut (by kernel_rfl) (of_decide_eq_true (by kernel_rfl)) h1 bel lt1) trodAll_mk0)),rfl,bel.frame _,fun h=>by cases h⟩
theorem over : Rows.treeErrorsRow.holds Try.pinned (OpenSpec.ofChange Rows.treeErrorsSpec) :=
  OpenClaim.holds_of_wide 6 Try.f6 rfl rfl rfl rfl rfl rfl rfl ⟨rfl,rfl,rfl,rfl,rfl⟩ rfl rfl rfl rfl rfl (by kernel_rfl) Try.func6 (by kernel_rfl)
    (of_decide_eq_true (by kernel_rfl)) (by unfold Func.isWrapper;first|(rw [if_pos (by decide +kernel)];kernel_rfl)|(rw [if_neg (by decide +kernel)];exact ⟨rfl,rfl⟩))
    (fun os started H enc _=>lifted os started H enc)
end Go.Proofs.Ytleahjfgedfgmaa.treeErrors
namespace Go.Proofs.Ytleahjfgedfgmaa
theorem treeErrors_holds : Rows.TreeErrorsSaid:=treeErrors.over
#print axioms treeErrors_holds
end Go.Proofs.Ytleahjfgedfgmaa
