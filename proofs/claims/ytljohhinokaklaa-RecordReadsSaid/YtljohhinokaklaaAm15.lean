/- The abstract machine, part 15: regions of open order, one operation after the other. -/
import Derived.Test.YtljohhinokaklaaAm13
set_option linter.unusedVariables false
set_option linter.unusedSimpArgs false
namespace Go.Proofs.Ytljohhinokaklaa.Am
open Go Go.RowKit

structure Awc (E : Env) (ops : Array Oper) (l : List Oper) (st : St) (acc : List (V × List (Nat × Ob))) (K : List (V × List (Nat × Ob)) → St → Prop) : Prop where
  h : awc E ops l st acc K
/-- What has come when an operation's turn is: true, false, or as may be. -/
def code1 (B : List Nat) (i j : Nat) : Option Bool := if (B.getD i 0).testBit j = true then some true else if j = i then some false else if (B.getD j 0).testBit i = true then some false else none
def codes (B : List Nat) (i : Nat) : Nat → Nat → List (Option Bool)
  | _, 0 => []
  | j, n + 1 => code1 B i j :: codes B i (j + 1) n
def Sg2 (b : Nat → Bool) : List (Option Bool) → Nat → List Oper → List (V × List (Nat × Ob)) → St → St
  | some true :: cs, i, o :: os, (x, u) :: ds, st => Sg2 b cs (i + 1) os ds (st.upd o.dst x u)
  | some false :: cs, i, _ :: os, _ :: ds, st => Sg2 b cs (i + 1) os ds st
  | none :: cs, i, o :: os, (x, u) :: ds, st => Sg2 b cs (i + 1) os ds (st.updIf (b i) o.dst x u)
  | _, _, _, _, st => st
theorem Sg_two {B : List Nat} {i : Nat} {b : Nat → Bool} : ∀ (os : List Oper) (ds : List (V × List (Nat × Ob))) (j : Nat) (st : St), Sg (mk B i b) j os ds st = Sg2 b (codes B i j os.length) j os ds st
  | [], _, _, _ => by simp [Sg, Sg2, codes]
  | o :: os, [], j, st => by
    simp only [Sg, List.length_cons, codes]
    cases code1 B i j with
    | none => rfl
    | some c => cases c <;> rfl
  | o :: os, (x, u) :: ds, j, st => by
    simp only [Sg, List.length_cons, codes]
    have h : mk B i b j = match code1 B i j with | some c => c | none => b j := by
      unfold mk code1
      split
      · rfl
      · split
        · rfl
        · split <;> rfl
    rw [h, Sg_two os ds]
    cases code1 B i j with
    | none => rfl
    | some c => cases c with
      | true => rw [updIf_true]; rfl
      | false => rw [updIf_false]; rfl
def Sg3 (b : Nat → Bool) : List (Option Bool) → Nat → List (Option Tmp) → List (V × List (Nat × Ob)) → St → St
  | some true :: cs, i, d :: os, (x, u) :: ds, st => Sg3 b cs (i + 1) os ds (st.upd d x u)
  | some false :: cs, i, _ :: os, _ :: ds, st => Sg3 b cs (i + 1) os ds st
  | none :: cs, i, d :: os, (x, u) :: ds, st => Sg3 b cs (i + 1) os ds (st.updIf (b i) d x u)
  | _, _, _, _, st => st
theorem Sg_three {b : Nat → Bool} : ∀ (cs : List (Option Bool)) (os : List Oper) (ds : List (V × List (Nat × Ob))) (i : Nat) (st : St), Sg2 b cs i os ds st = Sg3 b cs i (os.map (·.dst)) ds st
  | [], os, ds, i, st => by cases os <;> rfl
  | c :: cs, [], ds, i, st => by rcases c with _ | _ | _ <;> rfl
  | c :: cs, o :: os, [], i, st => by rcases c with _ | _ | _ <;> rfl
  | c :: cs, o :: os, (x, u) :: ds, i, st => by rcases c with _ | _ | _ <;> simp only [Sg2, Sg3, List.map_cons, Sg_three cs os ds]
def codesAll (B : List Nat) (n : Nat) : Nat → Nat → List (List (Option Bool))
  | _, 0 => []
  | i, m + 1 => codes B i 0 n :: codesAll B n (i + 1) m
def eachT (E : Env) (ops : Array Oper) (dd : List (Option Tmp)) (st : St) (δ : List (V × List (Nat × Ob))) : List (List (Option Bool)) → List Oper → List (V × List (Nat × Ob)) → Prop
  | cs :: css, o :: os, (x, u) :: ds => (∀ (b : Nat → Bool) (K : V → List (Nat × Ob) → Prop), K x u → ev1 E ops o (Sg3 b cs 0 dd δ st) K) ∧ eachT E ops dd st δ css os ds
  | _, [], [] => True
  | _, _, _ => False
structure Each (E : Env) (ops : Array Oper) (dd : List (Option Tmp)) (st : St) (δ : List (V × List (Nat × Ob))) (css : List (List (Option Bool))) (os : List Oper) (ds : List (V × List (Nat × Ob))) : Prop where
  h : eachT E ops dd st δ css os ds
theorem each_of {E : Env} {ops : Array Oper} {B : List Nat} {st : St} {δ : List (V × List (Nat × Ob))} : ∀ (os : List Oper) (ds : List (V × List (Nat × Ob))) (i : Nat), eachT E ops (ops.toList.map (·.dst)) st δ (codesAll B ops.toList.length i os.length) os ds → each E ops B st δ i os ds
  | [], [], _, _ => trivial
  | [], _ :: _, _, h => h.elim
  | _ :: _, [], _, h => by simp [codesAll, eachT] at h
  | o :: os, (x, u) :: ds, i, h => by
    simp only [List.length_cons, codesAll, eachT] at h
    simp only [each]
    refine ⟨fun b => ?_, each_of os ds _ h.2⟩
    rw [Sg_two, Sg_three]
    exact h.1 b _ rfl
def pairB1 (B : List Nat) (i : Nat) (d : Option Tmp) (u : List Nat) : Nat → List Oper → List (List Nat) → Bool
  | j, o' :: os, u' :: ds => ((B.getD j 0).testBit i || ((d.isNone || decide (d ≠ o'.dst)) && u.all fun p => u'.all fun q => decide (p ≠ q))) && pairB1 B i d u (j + 1) os ds
  | _, _, _ => true
def pairsB (B : List Nat) : Nat → List Oper → List (List Nat) → Bool
  | i, o :: os, u :: ds => pairB1 B i o.dst u (i + 1) os ds && pairsB B (i + 1) os ds
  | _, _, _ => true
def idsO (p : V × List (Nat × Ob)) : List Nat := p.2.map (·.1)
theorem pair1_of {B : List Nat} {i : Nat} {o : Oper} {u : List (Nat × Ob)} : ∀ {os : List Oper} {ds : List (V × List (Nat × Ob))} {j : Nat}, pairB1 B i o.dst (u.map (·.1)) j os (ds.map idsO) = true → pair1 B i o u j os ds
  | [], _, _, _ => by simp [pair1]
  | _ :: _, [], _, _ => by simp [pair1]
  | o' :: os, (x, u') :: ds, j, h => by
    simp only [List.map_cons, pairB1, Bool.and_eq_true, Bool.or_eq_true, Option.isNone_iff_eq_none, decide_eq_true_eq, List.all_eq_true] at h
    simp only [pair1]
    refine ⟨h.1.imp id fun h => ⟨h.1, fun p hp q hq => h.2 p.1 (List.mem_map_of_mem hp) q.1 ?_⟩, pair1_of h.2⟩
    exact List.mem_map_of_mem hq
theorem pairs_of {B : List Nat} : ∀ {os : List Oper} {ds : List (V × List (Nat × Ob))} {i : Nat}, pairsB B i os (ds.map idsO) = true → pairs B i os ds
  | [], _, _, _ => by simp [pairs]
  | _ :: _, [], _, _ => by simp [pairs]
  | o :: os, (x, u) :: ds, i, h => by
    simp only [List.map_cons, pairsB, Bool.and_eq_true] at h
    simp only [pairs]
    exact ⟨pair1_of h.1, pairs_of h.2⟩
section
variable {E : Env} {ops : Array Oper} {o : Oper} {r : List Oper} {st : St} {K : List (V × List (Nat × Ob)) → St → Prop} {acc : List (V × List (Nat × Ob))} {B : List Nat}
theorem awc_nil (h : K acc st) : Awc E ops [] st acc K := ⟨h⟩
theorem awc_none (hg : o.guard = none) (h : ∀ K' : V → List (Nat × Ob) → Prop, (∀ x u, Awc E ops r (st.upd o.dst x u) (acc ++ [(x, u)]) K → K' x u) → evk E o st K') : Awc E ops (o :: r) st acc K := by
  refine ⟨?_⟩
  simp only [awc, ev1, hg]; exact h _ fun _ _ h => h.h
theorem awc_some {j : Nat} {want b : Bool} {t : Tmp} (hg : o.guard = some (j, want)) (ht : gvt ops j = some t) (htn : t < st.nt) (hb : gt st.tm t = .d (.v (.bool b))) (hd : dOkb o.dst st.nt = true)
    (h1 : b = want → ∀ K' : V → List (Nat × Ob) → Prop, (∀ x u, Awc E ops r (st.upd o.dst x u) (acc ++ [(x, u)]) K → K' x u) → evk E o st K') (h2 : b = !want → Awc E ops r (st.upd o.dst (.d (.v undef)) []) (acc ++ [(.d (.v undef), [])]) K) : Awc E ops (o :: r) st acc K := by
  have hv : gv ops st j = some (some b) := by
    unfold gvt at ht
    unfold gv
    split at ht
    · rename_i q hq
      simp only [hq, ht, if_pos htn, hb]
    · cases ht
  refine ⟨?_⟩
  simp only [awc, ev1, hg, hv]
  exact ⟨fun e => h1 e _ fun _ _ h => h.h, fun e => ⟨dOkb_ok hd, (h2 e).h⟩⟩
variable {δ : List (V × List (Nat × Ob))} {dd : List (Option Tmp)} {css : List (List (Option Bool))} {cs : List (Option Bool)} {os : List Oper} {ds : List (V × List (Nat × Ob))} {x : V} {u : List (Nat × Ob)}
theorem each_nil : Each E ops dd st δ [] [] [] := ⟨trivial⟩
theorem each_none (hg : o.guard = none) (h : ∀ (b : Nat → Bool) (K' : V → List (Nat × Ob) → Prop), K' x u → evk E o (Sg3 b cs 0 dd δ st) K') (hr : Each E ops dd st δ css os ds) : Each E ops dd st δ (cs :: css) (o :: os) ((x, u) :: ds) := by
  refine ⟨?_⟩
  simp only [eachT]
  refine ⟨fun b K hK => ?_, hr.h⟩
  simp only [ev1, hg]
  exact h b K hK
theorem Sg3_nt {b : Nat → Bool} : ∀ (cs : List (Option Bool)) (os : List (Option Tmp)) (ds : List (V × List (Nat × Ob))) (i : Nat) (st : St), (Sg3 b cs i os ds st).nt = st.nt
  | [], os, ds, i, st => by cases os <;> rfl
  | c :: cs, [], ds, i, st => by rcases c with _ | _ | _ <;> rfl
  | c :: cs, o :: os, [], i, st => by rcases c with _ | _ | _ <;> rfl
  | c :: cs, o :: os, (x, u) :: ds, i, st => by
    rcases c with _ | _ | _ <;> simp only [Sg3, Sg3_nt cs os ds]
    · rfl
    · cases o <;> rfl
theorem each_some {j : Nat} {want c : Bool} {t : Tmp} (hg : o.guard = some (j, want)) (ht : gvt ops j = some t) (htn : t < st.nt) (hb : ∀ b, gt (Sg3 b cs 0 dd δ st).tm t = .d (.v (.bool c))) (hd : dOkb o.dst st.nt = true)
    (h : if c = want then ∀ (b : Nat → Bool) (K' : V → List (Nat × Ob) → Prop), K' x u → evk E o (Sg3 b cs 0 dd δ st) K' else x = .d (.v undef) ∧ u = []) (hr : Each E ops dd st δ css os ds) : Each E ops dd st δ (cs :: css) (o :: os) ((x, u) :: ds) := by
  refine ⟨?_⟩
  simp only [eachT]
  refine ⟨fun b K hK => ?_, hr.h⟩
  have hnt : (Sg3 b cs 0 dd δ st).nt = st.nt := Sg3_nt _ _ _ _ _
  have hv : gv ops (Sg3 b cs 0 dd δ st) j = some (some c) := by
    unfold gvt at ht
    unfold gv
    split at ht
    · rename_i q hq
      simp only [hq, ht, hnt, if_pos htn, hb]
    · cases ht
  simp only [ev1, hg, hv]
  refine ⟨fun e => ?_, fun e => ?_⟩
  · rw [if_pos e] at h
    exact h b _ hK
  · rw [if_neg (by rw [e]; cases want <;> simp)] at h
    obtain ⟨rfl, rfl⟩ := h
    exact ⟨by rw [hnt]; exact dOkb_ok hd, hK⟩
end
theorem AW.regc {E : Env} (hE : E.Ok) (hm : E.P.follows .mixedOrders = true) {id : Nat} {ops : Array Oper} {st : St} {Q : Exit → St → Prop} (B : List Nat) (hB : bitsOk ops B = true) (l : List Nat)
    (h : Awc E ops ops.toList st [] fun δ s => each E ops B st δ 0 ops.toList δ ∧ pairs B 0 ops.toList δ ∧ Q .normal (s.keep l)) : AW E.P (.region id ops true) st Q :=
  AW.draw hE hm B hB l h.h
theorem awc_leaf {E : Env} {ops ops' : Array Oper} {B : List Nat} {st s : St} {δ : List (V × List (Nat × Ob))} {l : List Nat} {Q : Exit → St → Prop} (dd : List (Option Tmp)) (css : List (List (Option Bool))) (hd : ops.toList.map (·.dst) = dd) (hc : codesAll B ops.toList.length 0 ops.toList.length = css)
    (h2 : pairsB B 0 ops.toList (δ.map idsO) = true) (h1 : Each E ops dd st δ css ops.toList δ) (h3 : Q .normal (s.keep l)) :
    Awc E ops' [] s δ fun δ s => each E ops B st δ 0 ops.toList δ ∧ pairs B 0 ops.toList δ ∧ Q .normal (s.keep l) := by
  subst hd
  subst hc
  exact ⟨⟨each_of _ _ _ h1.h, pairs_of h2, h3⟩⟩
end Go.Proofs.Ytljohhinokaklaa.Am
