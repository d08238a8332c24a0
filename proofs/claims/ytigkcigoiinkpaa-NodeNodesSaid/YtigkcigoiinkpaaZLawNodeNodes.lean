import Derived.Test.YtigkcigoiinkpaaRows
import Derived.Test.YtigkcigoiinkpaaZQX
import Derived.Test.YtigkcigoiinkpaaZFlN
set_option linter.unusedVariables false
set_option linter.unusedSimpArgs false
namespace Go.Proofs.Ytigkcigoiinkpaa.Am
open Go Go.RowKit Go.Proofs
theorem sp_NodeNodes (x0 x1 x2 x3 x4 x5 x6 x7 x8 : D) (wf0 : wfS wfPa x0) (wf1 : wfS wfLn x1) (wf2 : wfI x2) (wf3 : wfS wfI x3) (wf4 : wfS wfI x4) (wf5 : wfL x5) (wf6 : wfI x6) (wf7 : wfB x7) (wf8 : wfL x8) : Sp_overdublaw20_NodeNodes [x0,x1,x2,x3,x4,x5,x6,x7,x8] ⟨.d (.v (.bool true)),[]⟩:=by
  obtain ⟨v0,rfl,h0⟩:=wf_Pas wf0
  obtain ⟨v1,rfl,h1⟩:=wf_Lns wf1
  obtain ⟨v2,rfl,h2⟩:=wf2
  obtain ⟨v3,rfl,h3⟩:=wf_Is wf3
  obtain ⟨v4,rfl,h4⟩:=wf_Is wf4
  obtain ⟨v5,rfl⟩:=wf5
  obtain ⟨v6,rfl,h6⟩:=wf6
  obtain ⟨v7,rfl,h7⟩:=wf7
  obtain ⟨v8,rfl⟩:=wf8
  exact ⟨v0,v1,v2,v3,v4,v5,v6,v7,v8,rfl,h0,h1,h3,h4,rfl⟩
end Go.Proofs.Ytigkcigoiinkpaa.Am
namespace Go.Proofs.Ytigkcigoiinkpaa.nodeNodes
open Go Go.ChangeShapes Go.WideShapes Go.ChangeAt Go.RowKit Go.Proofs Go.Proofs.Ytigkcigoiinkpaa.Am
set_option linter.unusedVariables false
theorem own : ownKnob Try.prog.godebug = none:=by kernel_rfl
theorem laidOut : laidOutB Try.prog = true:=by kernel_rfl
set_option maxRecDepth 100000 in
theorem lifted (os : Os) (started : os.Started) (H : Type) (enc : TypeId × Value → H) :
    ReturnsInHanded {} Try.checked os 6 .any (Rows.nodeNodesSpec.pre6 enc Try.prog Try.f6 Rows.nodeNodesRow.domain false) (Rows.nodeNodesSpec.post enc Try.prog Try.f6 false true false false):=by
  refine returnsInHanded_of_change_sized (C:=Try.checked) own started (by kernel_rfl) Try.func6
    (ChangeSpec.witness6 (enc:=enc) (C:=Try.checked) false ⟨#[],#[.slice none 0 0,.slice none 0 0,.int .i64 0,.slice none 0 0,.slice none 0 0,.bool false,.int .i64 0,.int .u8 0,.bool false],[]⟩ 8 (by kernel_rfl) (by kernel_rfl) (by kernel_rfl) (by kernel_rfl)) ?_
  intro W base args ds gs before hval0 hW hcnd hsz0 _
  have hval : ∀ (j : Nat) t v,Try.f6.params[j]? = some t → args[j]? = some v → Value.okWide Try.prog W .any base t v:=hval0
  have hW':=hW
  obtain ⟨p,q,hA0,hV,rfl,hfz,hnd⟩:=hW
  have hA : DataW.TrodAll enc Try.prog W 0 (fun _=>true) true Try.f6.params.toList args.toList ds p:=hA0
  rw [Try.params6] at hA hval
  obtain ⟨v0,vs0,d0,ds0,p0,q0,hargs,rfl,rfl,h0,r0⟩:=trodAll_cons hA
  obtain ⟨v1,vs1,d1,ds1,p1,q1,rfl,rfl,rfl,h1,r1⟩:=trodAll_cons r0
  obtain ⟨v2,vs2,d2,ds2,p2,q2,rfl,rfl,rfl,h2,r2⟩:=trodAll_cons r1
  obtain ⟨v3,vs3,d3,ds3,p3,q3,rfl,rfl,rfl,h3,r3⟩:=trodAll_cons r2
  obtain ⟨v4,vs4,d4,ds4,p4,q4,rfl,rfl,rfl,h4,r4⟩:=trodAll_cons r3
  obtain ⟨v5,vs5,d5,ds5,p5,q5,rfl,rfl,rfl,h5,r5⟩:=trodAll_cons r4
  obtain ⟨v6,vs6,d6,ds6,p6,q6,rfl,rfl,rfl,h6,r6⟩:=trodAll_cons r5
  obtain ⟨v7,vs7,d7,ds7,p7,q7,rfl,rfl,rfl,h7,r7⟩:=trodAll_cons r6
  obtain ⟨v8,vs8,d8,ds8,p8,q8,rfl,rfl,rfl,h8,r8⟩:=trodAll_cons r7
  obtain ⟨rfl,rfl,rfl⟩:=trodAll_nil r8
  obtain rfl : args = #[v0,v1,v2,v3,v4,v5,v6,v7,v8]:=by cases args;simp_all
  obtain ⟨rfl,rfl⟩:=trodVars_none hV
  have lt0 : ∀ x ∈ p0,x.block < W.heap.size:=by obtain ⟨m,hm⟩:=h0;exact DataW.trod_lt m _ _ _ hm
  obtain ⟨x0,rd0,wf0⟩:=opvPas H enc W _ _ v0 d0 p0 (hval 0 56 v0 rfl rfl) h0
  have lt1 : ∀ x ∈ p1,x.block < W.heap.size:=by obtain ⟨m,hm⟩:=h1;exact DataW.trod_lt m _ _ _ hm
  obtain ⟨x1,rd1,wf1⟩:=opvLns H enc W _ _ v1 d1 p1 (hval 1 22 v1 rfl rfl) h1
  have lt2 : ∀ x ∈ p2,x.block < W.heap.size:=by obtain ⟨m,hm⟩:=h2;exact DataW.trod_lt m _ _ _ hm
  obtain ⟨x2,rd2,wf2⟩:=opvi H enc W _ _ v2 d2 p2 (hval 2 3 v2 rfl rfl) h2
  have lt3 : ∀ x ∈ p3,x.block < W.heap.size:=by obtain ⟨m,hm⟩:=h3;exact DataW.trod_lt m _ _ _ hm
  obtain ⟨x3,rd3,wf3⟩:=opvIs H enc W _ _ v3 d3 p3 (hval 3 50 v3 rfl rfl) h3
  have lt4 : ∀ x ∈ p4,x.block < W.heap.size:=by obtain ⟨m,hm⟩:=h4;exact DataW.trod_lt m _ _ _ hm
  obtain ⟨x4,rd4,wf4⟩:=opvIs H enc W _ _ v4 d4 p4 (hval 4 50 v4 rfl rfl) h4
  have lt5 : ∀ x ∈ p5,x.block < W.heap.size:=by obtain ⟨m,hm⟩:=h5;exact DataW.trod_lt m _ _ _ hm
  obtain ⟨x5,rd5,wf5⟩:=opvL H enc W _ _ v5 d5 p5 (hval 5 4 v5 rfl rfl) h5
  have lt6 : ∀ x ∈ p6,x.block < W.heap.size:=by obtain ⟨m,hm⟩:=h6;exact DataW.trod_lt m _ _ _ hm
  obtain ⟨x6,rd6,wf6⟩:=opvi H enc W _ _ v6 d6 p6 (hval 6 3 v6 rfl rfl) h6
  have lt7 : ∀ x ∈ p7,x.block < W.heap.size:=by obtain ⟨m,hm⟩:=h7;exact DataW.trod_lt m _ _ _ hm
  obtain ⟨x7,rd7,wf7⟩:=opv5 H enc W _ _ v7 d7 p7 (hval 7 5 v7 rfl rfl) h7
  have lt8 : ∀ x ∈ p8,x.block < W.heap.size:=by obtain ⟨m,hm⟩:=h8;exact DataW.trod_lt m _ _ _ hm
  obtain ⟨x8,rd8,wf8⟩:=opvL H enc W _ _ v8 d8 p8 (hval 8 4 v8 rfl rfl) h8
  have hP:=sp_NodeNodes x0 x1 x2 x3 x4 x5 x6 x7 x8 wf0 wf1 wf2 wf3 wf4 wf5 wf6 wf7 wf8
  refine (law_calls good_overdublaw20_NodeNodes hP (args:=#[v0,v1,v2,v3,v4,v5,v6,v7,v8]) (w:=W) rfl ?_).mono fun e W' hpost=>?_
  · intro i d y h1 h2
    match i,h1,h2 with
    | 0,h1,h2=>cases h1;cases h2;exact rd0
    | 1,h1,h2=>cases h1;cases h2;exact rd1
    | 2,h1,h2=>cases h1;cases h2;exact rd2
    | 3,h1,h2=>cases h1;cases h2;exact rd3
    | 4,h1,h2=>cases h1;cases h2;exact rd4
    | 5,h1,h2=>cases h1;cases h2;exact rd5
    | 6,h1,h2=>cases h1;cases h2;exact rd6
    | 7,h1,h2=>cases h1;cases h2;exact rd7
    | 8,h1,h2=>cases h1;cases h2;exact rd8
    | k + 9,h1,h2=>simp at h1
  · obtain ⟨rfl,bel⟩:=hpost
    exact ⟨_,rfl,_,_,_,[],_,[],hW',trodAll_mk1 (shut_bool Try.underlying4 _),(trodAll_cons_mk (Below.trod laidOut (by kernel_rfl) (of_decide_eq_true (by kernel_rfl)) h0 bel lt0) (trodAll_cons_mk (Below.trod laidOut (by kernel_rfl) (of_decide_eq_true (by kernel_rfl)) h1 bel lt1) (trodAll_cons_mk (Below.trod laidOut (by kernel_rfl) (of_decide_eq_true (by kernel_rfl)) h2 bel lt2) (trodAll_cons_mk (Below.trod laidOut (by kernel_rfl) (of_decide_eq_true (by kernel_rfl)) h3 bel lt3) (trodAll_cons_mk (Below.trod laidOut (by kernel_rfl) (of_decide_eq_true (by kernel_rfl)) h4 bel lt4) (trodAll_cons_mk (Below.trod laidOut (by kernel_rfl) (of_decide_eq_true (by kernel_rfl)) h5 bel lt5) (trodAll_cons_mk (Below.trod laidOut (by kernel_rfl) (of_decide_eq_true (by kernel_rfl)) h6 bel lt6) (trodAll_cons_mk (Below.trod laidOut (by kernel_rfl) (of_decide_eq_true (by kernel_rfl)) h7 bel lt7) (trodAll_cons_mk (Below.trod laidOut (by kernel_rfl) (of_decide_eq_true (by kernel_rfl)) h8 bel lt8) trodAll_mk0))))))))),rfl,bel.frame _,fun h=>by cases h⟩
theorem over : Rows.nodeNodesRow.holds Try.pinned (OpenSpec.ofChange Rows.nodeNodesSpec) :=
  OpenClaim.holds_of_wide 6 Try.f6 rfl rfl rfl rfl rfl rfl rfl ⟨rfl,rfl,rfl,rfl,rfl⟩ rfl rfl rfl rfl rfl (by kernel_rfl) Try.func6 (by kernel_rfl)
    (of_decide_eq_true (by kernel_rfl)) (by unfold Func.isWrapper;first|(rw [if_pos (by decide +kernel)];kernel_rfl)|(rw [if_neg (by decide +kernel)];exact ⟨rfl,rfl⟩))
    (fun os started H enc _=>lifted os started H enc)
end Go.Proofs.Ytigkcigoiinkpaa.nodeNodes
namespace Go.Proofs.Ytigkcigoiinkpaa
theorem nodeNodes_holds : Rows.NodeNodesSaid:=nodeNodes.over
#print axioms nodeNodes_holds
end Go.Proofs.Ytigkcigoiinkpaa
