import Derived.Test.YtcmnblgekcjpiaaRows
import Derived.Test.YtcmnblgekcjpiaaZQ3
import Derived.Test.YtcmnblgekcjpiaaZFlD
set_option linter.unusedVariables false
set_option linter.unusedSimpArgs false
namespace Go.Proofs.Ytcmnblgekcjpiaa.Am
open Go Go.RowKit Go.Proofs
theorem sp_DiskPokes (x0 x1 x2 x3 x4 : D) (wf0 : wfI x0) (wf1 : wfI x1) (wf2 : wfS wfB x2) (wf3 : wfS wfB x3) (wf4 : wfL x4) : Sp_overdublaw10_DiskPokes [x0,x1,x2,x3,x4] ⟨.d (.v (.bool true)),[]⟩:=by
  obtain ⟨i,rfl,_⟩:=wf0
  obtain ⟨g,rfl,_⟩:=wf1
  obtain ⟨a,rfl,ha,hal⟩:=wf_Bs wf2
  obtain ⟨b,rfl,hb,hbl⟩:=wf_Bs wf3
  obtain ⟨k,rfl⟩:=wf4
  exact ⟨i,g,a,b,k,rfl,ha,hal,hb,hbl,rfl⟩
end Go.Proofs.Ytcmnblgekcjpiaa.Am
namespace Go.Proofs.Ytcmnblgekcjpiaa.diskPokes
open Go Go.ChangeShapes Go.WideShapes Go.ChangeAt Go.RowKit Go.Proofs Go.Proofs.Ytcmnblgekcjpiaa.Am
set_option linter.unusedVariables false
theorem own : ownKnob Try.prog.godebug = none:=by kernel_rfl
theorem laidOut : laidOutB Try.prog = true:=by kernel_rfl
set_option maxRecDepth 100000 in
theorem lifted (os : Os) (started : os.Started) (H : Type) (enc : TypeId × Value → H) :
    ReturnsInHanded {} Try.checked os 6 .any (Rows.diskPokesSpec.pre6 enc Try.prog Try.f6 Rows.diskPokesRow.domain false) (Rows.diskPokesSpec.post enc Try.prog Try.f6 false true false false):=by
  refine returnsInHanded_of_change_sized (C:=Try.checked) own started (by kernel_rfl) Try.func6
    (ChangeSpec.witness6 (enc:=enc) (C:=Try.checked) false ⟨#[],#[.int .i64 0,.int .i64 0,.slice none 0 0,.slice none 0 0,.bool false],[]⟩ 8 (by kernel_rfl) (by kernel_rfl) (by kernel_rfl) (by kernel_rfl)) ?_
  intro W base args ds gs before hval0 hW hcnd hsz0 _
  have hval : ∀ (j : Nat) t v,Try.f6.params[j]? = some t → args[j]? = some v → Value.okWide Try.prog W .any base t v:=hval0
  have hW':=hW
  obtain ⟨p,q,hA0,hV,rfl,hfz,hnd⟩:=hW
  have hA : DataW.TrodAll enc Try.prog W 0 (fun _=>true) true Try.f6.params.toList args.toList ds p:=hA0
  rw [Try.params6] at hA hval
  obtain ⟨v0,vs0,d0,ds0,p0,q0,hargs,rfl,rfl,h0,r0⟩:=trodAll_cons hA
  obtain ⟨v1,vs1,d1,ds1,p1,q1,rfl,rfl,rfl,h1,r1⟩:=trodAll_cons r0
  obtain ⟨v2,vs2,d2,ds2,p2,q2,rfl,rfl,rfl,h2,r2⟩:=trodAll_cons r1
  obtain ⟨v3,vs3,d3,ds3,p3,q3,rfl,rfl,rfl,h3,r3⟩:=trodAll_cons r2
  obtain ⟨v4,vs4,d4,ds4,p4,q4,rfl,rfl,rfl,h4,r4⟩:=trodAll_cons r3
  obtain ⟨rfl,rfl,rfl⟩:=trodAll_nil r4
  obtain rfl : args = #[v0,v1,v2,v3,v4]:=by cases args;simp_all
  obtain ⟨rfl,rfl⟩:=trodVars_none hV
  have lt0 : ∀ x ∈ p0,x.block < W.heap.size:=by obtain ⟨m,hm⟩:=h0;exact DataW.trod_lt m _ _ _ hm
  obtain ⟨x0,rd0,wf0⟩:=opvi H enc W _ _ v0 d0 p0 (hval 0 3 v0 rfl rfl) h0
  have lt1 : ∀ x ∈ p1,x.block < W.heap.size:=by obtain ⟨m,hm⟩:=h1;exact DataW.trod_lt m _ _ _ hm
  obtain ⟨x1,rd1,wf1⟩:=opvi H enc W _ _ v1 d1 p1 (hval 1 3 v1 rfl rfl) h1
  have lt2 : ∀ x ∈ p2,x.block < W.heap.size:=by obtain ⟨m,hm⟩:=h2;exact DataW.trod_lt m _ _ _ hm
  obtain ⟨x2,rd2,wf2⟩:=opvBs H enc W _ _ v2 d2 p2 (hval 2 32 v2 rfl rfl) h2
  have lt3 : ∀ x ∈ p3,x.block < W.heap.size:=by obtain ⟨m,hm⟩:=h3;exact DataW.trod_lt m _ _ _ hm
  obtain ⟨x3,rd3,wf3⟩:=opvBs H enc W _ _ v3 d3 p3 (hval 3 32 v3 rfl rfl) h3
  have lt4 : ∀ x ∈ p4,x.block < W.heap.size:=by obtain ⟨m,hm⟩:=h4;exact DataW.trod_lt m _ _ _ hm
  obtain ⟨x4,rd4,wf4⟩:=opvL H enc W _ _ v4 d4 p4 (hval 4 4 v4 rfl rfl) h4
  have hP:=sp_DiskPokes x0 x1 x2 x3 x4 wf0 wf1 wf2 wf3 wf4
  refine (law_calls good_overdublaw10_DiskPokes hP (args:=#[v0,v1,v2,v3,v4]) (w:=W) rfl ?_).mono fun e W' hpost=>?_
  · intro i d y h1 h2
    match i,h1,h2 with
    | 0,h1,h2=>cases h1;cases h2;exact rd0
    | 1,h1,h2=>cases h1;cases h2;exact rd1
    | 2,h1,h2=>cases h1;cases h2;exact rd2
    | 3,h1,h2=>cases h1;cases h2;exact rd3
    | 4,h1,h2=>cases h1;cases h2;exact rd4
    | k + 5,h1,h2=>simp at h1
  · obtain ⟨rfl,bel⟩:=hpost
    exact ⟨_,rfl,_,_,_,[],_,[],hW',trodAll_mk1 (shut_bool Try.underlying4 _),(trodAll_cons_mk (Below.trod laidOut (by kernel_rfl) (of_decide_eq_true (by kernel_rfl)) h0 bel lt0) (trodAll_cons_mk (Below.trod laidOut (by kernel_rfl) (of_decide_eq_true (by kernel_rfl)) h1 bel lt1) (trodAll_cons_mk (Below.trod laidOut (by kernel_rfl) (of_decide_eq_true (by kernel_rfl)) h2 bel lt2) (trodAll_cons_mk (Below.trod laidOut (by kernel_rfl) (of_decide_eq_true (by kernel_rfl)) h3 bel lt3) (trodAll_cons_mk (Below.trod laidOut (by kernel_rfl) (of_decide_eq_true (by kernel_rfl)) h4 bel lt4) trodAll_mk0))))),rfl,bel.frame _,fun h=>by cases h⟩
theorem over : Rows.diskPokesRow.holds Try.pinned (OpenSpec.ofChange Rows.diskPokesSpec) :=
  OpenClaim.holds_of_wide 6 Try.f6 rfl rfl rfl rfl rfl rfl rfl ⟨rfl,rfl,rfl,rfl,rfl⟩ rfl rfl rfl rfl rfl (by kernel_rfl) Try.func6 (by kernel_rfl)
    (of_decide_eq_true (by kernel_rfl)) (by unfold Func.isWrapper;first|(rw [if_pos (by decide +kernel)];kernel_rfl)|(rw [if_neg (by decide +kernel)];exact ⟨rfl,rfl⟩))
    (fun os started H enc _=>lifted os started H enc)
end Go.Proofs.Ytcmnblgekcjpiaa.diskPokes
namespace Go.Proofs.Ytcmnblgekcjpiaa
theorem diskPokes_holds : Rows.DiskPokesSaid:=diskPokes.over
#print axioms diskPokes_holds
end Go.Proofs.Ytcmnblgekcjpiaa
