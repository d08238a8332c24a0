import Derived.Test.YtigkcigoiinkpaaZN2
set_option linter.unusedVariables false
set_option linter.unusedSimpArgs false
set_option maxRecDepth 10000
set_option maxHeartbeats 0
namespace Go.Proofs.Ytigkcigoiinkpaa.Am
open Go Go.RowKit Go.Proofs
structure Ln where
  a : Int
  b : Int
  c : Int
def l0 : Ln:=⟨0,0,0⟩
def lD (p : Ln) : D:=.agg [.v (.int .i64 p.a),.v (.int .i64 p.b),.v (.int .i64 p.c)]
def itL (p : Ln) : List Int:=putB (max 0 p.a) 1 ++ (putB (max 0 p.b) 2 ++ putB (max 0 p.c) 2)
def lsB (l : List Ln) : List Int:=l.flatMap itL
theorem itL_len (p : Ln) : (itL p).length = 5:=by simp [itL,putB_len]
theorem lsB_len (l : List Ln) : (lsB l).length = 5 * l.length:=by
  induction l with
  | nil=>rfl
  | cons p r ih =>
    have e : lsB (p :: r) = itL p ++ lsB r:=rfl
    rw [e,List.length_append,itL_len,ih,List.length_cons];omega
theorem lsB_byt (l : List Ln) : Byt (lsB l):=by
  intro x hx
  obtain ⟨p,_,hp⟩:=List.mem_flatMap.1 hx
  exact byt_append (putB_byt _ _) (byt_append (putB_byt _ _) (putB_byt _ _)) x hp
theorem lsB_snoc (l : List Ln) (p : Ln) : lsB (l ++ [p]) = lsB l ++ itL p:=by simp [lsB]
theorem nth_L (l : List Ln) (i : Nat) (h : i < l.length) : nth (l.map lD) i = lD (l.getD i l0):=nth_map lD l i l0 h
theorem lD_inj (l m : List Ln) : (l.map lD = m.map lD) = (l = m):=by
  apply propext
  refine ⟨fun h=>?_,fun h=>by rw [h]⟩
  have : ∀ a b : Ln,lD a = lD b → a = b:=by
    rintro ⟨a,b,c⟩ ⟨d,e,f⟩ h
    simp [lD] at h
    rw [h.1,h.2.1,h.2.2]
  induction l generalizing m with
  | nil=>cases m with|nil=>rfl|cons _ _=>simp at h
  | cons a r ih =>
    cases m with
    | nil=>simp at h
    | cons b s =>
      simp only [List.map_cons,List.cons.injEq] at h
      rw [this a b h.1,ih s h.2]
def okL (l : List Ln) (i : Nat) : Prop:=0 ≤ (l.getD i l0).a ∧ (l.getD i l0).a ≤ 99 ∧ (0 < i → (l.getD (i - 1) l0).a < (l.getD i l0).a) ∧ 0 ≤ (l.getD i l0).b ∧ (l.getD i l0).b ≤ 1000 ∧ ((l.getD i l0).c ≠ 0 → secN (l.getD i l0).c) ∧ ((l.getD i l0).c = 0 ↔ (l.getD i l0).b = 0)
def mayD (l : List Ln) : Prop:=l.length ≤ 6 ∧ ∀ i,i < l.length → okL l i
open Classical in
noncomputable def packDOut (l : List Ln) : Out:=if mayD l then ⟨.tup [.sl 0 1 0 128 true,.d (.v (.bool true))],[(0,.row 5 1 ((nodP 3 l.length (lsB l)).map mB))]⟩ else ⟨.tup [.nil,.d (.v (.bool false))],[]⟩
theorem Y3n (a b c : List Int) (l : List (List Int)) : ([D.list (a.map mB),D.list (b.map mB),D.list (c.map mB)] = l.map bys) = (l = [a,b,c]):=by
  rw [show [D.list (a.map mB),D.list (b.map mB),D.list (c.map mB)] = [a,b,c].map bys from rfl,Y_inj]
  exact propext eq_comm
end Go.Proofs.Ytigkcigoiinkpaa.Am
