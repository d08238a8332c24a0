import Derived.Test.YtleahjfgedfgmaaRows
import Derived.Test.YtleahjfgedfgmaaZQTc
import Derived.Test.YtleahjfgedfgmaaZFlX
set_option linter.unusedVariables false
set_option linter.unusedSimpArgs false
namespace Go.Proofs.Ytleahjfgedfgmaa.Am
open Go Go.RowKit Go.Proofs
theorem sp_TreeCuts (x0 x1 x2 : D) (wf0 : wfS wfX x0) (wf1 : wfI x1) (wf2 : wfI x2) : Sp_overdublaw19_TreeCuts [x0,x1,x2] ⟨.d (.v (.bool true)),[]⟩:=by
  obtain ⟨l,rfl,h1,h2⟩:=wf_Xs wf0
  obtain ⟨a,rfl,_⟩:=wf1
  obtain ⟨b,rfl,_⟩:=wf2
  exact ⟨l,a,b,rfl,h1,h2,rfl⟩
end Go.Proofs.Ytleahjfgedfgmaa.Am
namespace Go.Proofs.Ytleahjfgedfgmaa.treeCuts
open Go Go.ChangeShapes Go.WideShapes Go.ChangeAt Go.RowKit Go.Proofs Go.Proofs.Ytleahjfgedfgmaa.Am
set_option linter.unusedVariables false
theorem own : ownKnob Try.prog.godebug = none:=by kernel_rfl
theorem laidOut : laidOutB Try.prog = true:=by kernel_rfl
set_option maxRecDepth 100000 in
theorem lifted (os : Os) (started : os.Started) (H : Type) (enc : TypeId × Value → H) :
    ReturnsInHanded {} Try.checked os 5 .any (Rows.treeCutsSpec.pre6 enc Try.prog Try.f5 Rows.treeCutsRow.domain false) (Rows.treeCutsSpec.post enc Try.prog Try.f5 false true false false):=by
  refine returnsInHanded_of_change_sized (C:=Try.checked) own started (by kernel_rfl) Try.func5
    (ChangeSpec.witness6 (enc:=enc) (C:=Try.checked) false ⟨#[],#[.slice none 0 0,.int .i64 0,.int .i64 0],[]⟩ 8 (by kernel_rfl) (by kernel_rfl) (by kernel_rfl) (by kernel_rfl)) ?_
  intro W base args ds gs before hval0 hW hcnd hsz0 _
  have hval : ∀ (j : Nat) t v,Try.f5.params[j]? = some t → args[j]? = some v → Value.okWide Try.prog W .any base t v:=hval0
  have hW':=hW
  obtain ⟨p,q,hA0,hV,rfl,hfz,hnd⟩:=hW
  have hA : DataW.TrodAll enc Try.prog W 0 (fun _=>true) true Try.f5.params.toList args.toList ds p:=hA0
  rw [Try.params5] at hA hval
  obtain ⟨v0,vs0,d0,ds0,p0,q0,hargs,rfl,rfl,h0,r0⟩:=trodAll_cons hA
  obtain ⟨v1,vs1,d1,ds1,p1,q1,rfl,rfl,rfl,h1,r1⟩:=trodAll_cons r0
  obtain ⟨v2,vs2,d2,ds2,p2,q2,rfl,rfl,rfl,h2,r2⟩:=trodAll_cons r1
  obtain ⟨rfl,rfl,rfl⟩:=trodAll_nil r2
  obtain rfl : args = #[v0,v1,v2]:=by cases args;simp_all
  obtain ⟨rfl,rfl⟩:=trodVars_none hV
  have lt0 : ∀ x ∈ p0,x.block < W.heap.size:=by obtain ⟨m,hm⟩:=h0;exact DataW.trod_lt m _ _ _ hm
  obtain ⟨x0,rd0,wf0⟩:=opv22 H enc W _ _ v0 d0 p0 (hval 0 22 v0 rfl rfl) h0
  have lt1 : ∀ x ∈ p1,x.block < W.heap.size:=by obtain ⟨m,hm⟩:=h1;exact DataW.trod_lt m _ _ _ hm
  obtain ⟨x1,rd1,wf1⟩:=opvi H enc W _ _ v1 d1 p1 (hval 1 3 v1 rfl rfl) h1
  have lt2 : ∀ x ∈ p2,x.block < W.heap.size:=by obtain ⟨m,hm⟩:=h2;exact DataW.trod_lt m _ _ _ hm
  obtain ⟨x2,rd2,wf2⟩:=opvi H enc W _ _ v2 d2 p2 (hval 2 3 v2 rfl rfl) h2
  have hP:=sp_TreeCuts x0 x1 x2 wf0 wf1 wf2
  refine (law_calls good_overdublaw19_TreeCuts hP (args:=#[v0,v1,v2]) (w:=W) rfl ?_).mono fun e W' hpost=>?_
  · intro i d y h1 h2
    match i,h1,h2 with
    | 0,h1,h2=>cases h1;cases h2;exact rd0
    | 1,h1,h2=>cases h1;cases h2;exact rd1
    | 2,h1,h2=>cases h1;cases h2;exact rd2
    | k + 3,h1,h2=>simp at h1
  · obtain ⟨rfl,bel⟩:=hpost
    exact ⟨_,rfl,_,_,_,[],_,[],hW',trodAll_mk1 (shut_bool Try.underlying4 _),(trodAll_cons_mk (Below.trod laidOut (by kernel_rfl) (of_decide_eq_true (by kernel_rfl)) h0 bel lt0) (trodAll_cons_mk (Below.trod laidOut (by kernel_rfl) (of_decide_eq_true (by kernel_rfl)) h1 bel lt1) (trodAll_cons_mk (Below.trod laidOut (by kernel_rfl) (of_decide_eq_true (by kernel_rfl)) h2 bel lt2) trodAll_mk0))),rfl,bel.frame _,fun h=>by cases h⟩
theorem over : Rows.treeCutsRow.holds Try.pinned (OpenSpec.ofChange Rows.treeCutsSpec) :=
  OpenClaim.holds_of_wide 5 Try.f5 rfl rfl rfl rfl rfl rfl rfl ⟨rfl,rfl,rfl,rfl,rfl⟩ rfl rfl rfl rfl rfl (by kernel_rfl) Try.func5 (by kernel_rfl)
    (of_decide_eq_true (by kernel_rfl)) (by unfold Func.isWrapper;first|(rw [if_pos (by decide +kernel)];kernel_rfl)|(rw [if_neg (by decide +kernel)];exact ⟨rfl,rfl⟩))
    (fun os started H enc _=>lifted os started H enc)
end Go.Proofs.Ytleahjfgedfgmaa.treeCuts
namespace Go.Proofs.Ytleahjfgedfgmaa
theorem treeCuts_holds : Rows.TreeCutsSaid:=treeCuts.over
#print axioms treeCuts_holds
end Go.Proofs.Ytleahjfgedfgmaa
