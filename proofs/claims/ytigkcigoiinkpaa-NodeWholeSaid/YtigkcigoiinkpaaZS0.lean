import Derived.Test.YtigkcigoiinkpaaZCrc
import Derived.Test.YtigkcigoiinkpaaZF1
set_option linter.unusedVariables false
set_option linter.unusedSimpArgs false
namespace Go.Proofs.Ytigkcigoiinkpaa.Am
open Go Go.RowKit Go.Proofs Go.Proofs.YtigkcigoiinkpaaW.PrintWords Go.Proofs.YtigkcigoiinkpaaW.PrintLast Go.Proofs.YtigkcigoiinkpaaW.PrintMore
theorem kd_of_rd {w : World} {ok : Nat → Prop} {l : List Int} {y : Value} (h : Rd w ok (.list (l.map mB)) y) (hl : l.length ≤ 9223372036854775807) : ∃ A c, y = .slice A l.length c ∧ l.length ≤ c ∧ Kd.C (Kd.int .u8) w A l.length l := by
  generalize hd : D.list (l.map mB) = d at h
  cases h with
  | nil A c =>
    simp only [D.list.injEq, List.map_eq_nil_iff] at hd
    subst hd
    exact ⟨A, c, rfl, Nat.zero_le _, rfl, hl, fun h => absurd h (by simp)⟩
  | list l' sz b o c vals hc hok hsz hdd hv h1 hh =>
    simp only [D.list.injEq] at hd
    subst hd
    simp only [List.length_map] at hc hv h1
    refine ⟨some ⟨b, o, none⟩, c, by simp, hc, rfl, hl, fun h0 => ⟨⟨b, o, none⟩, rfl, fun j p hp => ⟨[.int .u8 p], rfl, rfl, fun i u hu => ?_⟩⟩⟩
    have hjl : j < l.length := (List.getElem?_eq_some_iff.1 hp).1
    obtain rfl : sz = 1 := by
      have := hdd (mB l[j]) (List.mem_map_of_mem (List.getElem_mem _))
      simpa [mB, D.cells] using this.symm
    have e1 := hh j 0 (mB p) (mB p) (by simp [hp]) rfl
    rw [Nat.mul_one, Nat.add_zero] at e1
    have e2 := hv j (by omega)
    generalize vals j = q at e1 e2
    cases i with
    | zero =>
      simp only [List.getElem?_cons_zero, Option.some.injEq] at hu
      subst hu
      cases e1
      show w.cell? ((⟨b, o, none⟩ : Addr).add (j * 1 + 0)) = _
      rw [Addr.add_lit, Nat.mul_one, Nat.add_zero]
      exact e2
    | succ i => simp at hu
  | _ => cases hd
theorem good_bytes {P : Program} {f : FuncId} {e8 : TypeId} {Sp0 : List D → List Int → Prop}
    (h : ∀ ds r, Sp0 ds r → ∀ (oa : Nat → Prop) (args : Array Value) (w : World), args.size = ds.length → (∀ (i : Nat) (d : D) (y : Value), ds[i]? = some d → args[i]? = some y → Rd w (fun b => oa b ∧ b < w.heap.size) d y) →
      Calls P f args w fun e w' => ∃ v, e = .returned v ∧ w'.ownsRow w.heap.size e8 1 v r.length (r.map (Value.int .u8)) ∧ Below w.heap.size w w') :
    Good P f (fun ds out => ∃ r, Sp0 ds r ∧ out = ⟨.sl 0 1 0 r.length true, [(0, .row e8 1 (r.map mB))]⟩) := by
  rintro ds out ⟨r, hsp, rfl⟩ oa args w hsz hrd
  refine (h ds r hsp oa args w hsz hrd).mono fun e w' ⟨v, he, hown, hb⟩ => ⟨v, he, ?_⟩
  have hs : SRp w oa (fun _ => none) ⟨[], [], 0⟩ { tmps := #[], defers := [] } w :=
    ⟨⟨Below.refl _ _, fun id o ho => by simp [go] at ho, fun _ _ => rfl, fun id id' o o' v v' ho => by simp [go] at ho⟩, rfl, rfl, fun k => .junk _⟩
  obtain ⟨φ', hs', hv⟩ := hs.newrow 0 rfl e8 1 (r.map mB) v (r.map (Value.int .u8)) Nat.one_pos hb (by rw [List.length_map]; exact hown) ⟨by simp, fun u hu => by obtain ⟨n, _, rfl⟩ := List.mem_map.1 hu; rfl, fun d hd => by obtain ⟨n, _, rfl⟩ := List.mem_map.1 hd; rfl, fun i j d x u hd hx hu => by
    rw [List.getElem?_map] at hd
    obtain ⟨n, hn, rfl⟩ := Option.map_eq_some_iff.1 hd
    cases j with
    | zero =>
      cases hx
      rw [Nat.mul_one, Nat.add_zero, List.getElem?_map, hn] at hu
      cases hu
      exact .v _
    | succ j => cases hx⟩
  rw [List.length_map] at hv
  exact ⟨φ', hs'.hr, hv⟩
theorem own_of_R {w' : World} {base e : Nat} {v : Value} {r : List Int} (h : Kd.R (Kd.int .u8) e w' base (fun _ => True) v r) : w'.ownsRow base e 1 v r.length (r.map (Value.int .u8)) := by
  obtain ⟨_, inner, ho, hl, hr⟩ := h
  have hi : inner = r.map (Value.int .u8) := by
    apply List.ext_getElem?
    intro j
    by_cases hj : j < r.length
    · have e1 : (inner.drop (j * 1)).take 1 = [.int .u8 r[j]] := hr j r[j] (List.getElem?_eq_getElem hj)
      rw [Nat.mul_one] at e1
      have e2 : inner[j]? = ((inner.drop j).take 1)[0]? := by simp
      rw [e2, e1]
      simp [hj]
    · have hl' : inner.length = r.length := by have := hl; simpa [Kd.int, Kd.scalar] using this
      rw [List.getElem?_eq_none (by omega), List.getElem?_eq_none (by simp; omega)]
  rw [← hi]
  exact ho
open Go.Proofs.Ytigkcigoiinkpaa.Crc Go.Proofs.Ytigkcigoiinkpaa.Mth Go.Proofs.Ytigkcigoiinkpaa.QC
def sumL (l : List Int) : List Int := QC.sumB l
def Sp_sum0 (ds : List D) (out : Out) : Prop := ∃ r, (∃ l : List Int, ds = [.list (l.map mB)] ∧ l.length ≤ 9223372036854775807 ∧ r = sumL l) ∧ out = ⟨.sl 0 1 0 r.length true, [(0, .row 5 1 (r.map mB))]⟩
theorem good_sum0 : Good Try.prog 82 Sp_sum0 := by
  refine good_bytes fun ds r hs oa args w hsz hrd => ?_
  obtain ⟨l, rfl, hl, rfl⟩ := hs
  obtain ⟨y, rfl⟩ : ∃ y, args = #[y] := by
    obtain ⟨ys⟩ := args
    match ys, hsz with
    | [y], _ => exact ⟨y, rfl⟩
  obtain ⟨A, c, rfl, hc, hk⟩ := kd_of_rd (hrd 0 _ y rfl rfl) hl
  exact (QC.sealed_sum.calls A c l (QC.sumB l) w hk hc rfl).mono fun e w' ⟨v, h1, h2, h3⟩ => ⟨v, h1, own_of_R h2, h3⟩
def Sp_sealed_sum (ds : List D) (out : Out) : Prop := ∃ l : List Int, ds = [.list (l.map mB)] ∧ l.length ≤ 9223372036854775807 ∧ out = ⟨.sl 0 1 0 4 true, [(0, .row 5 1 ((sumL l).map mB))]⟩
theorem good_sealed_sum : Good Try.prog 82 Sp_sealed_sum := fun ds out ⟨l, h1, h2, h3⟩ => good_sum0 ds out ⟨sumL l, ⟨l, h1, h2, rfl⟩, h3⟩
theorem ent_sealed_sum : Ent Try.prog 82 := ⟨_, Try.func82, rfl, by decide⟩
end Go.Proofs.Ytigkcigoiinkpaa.Am
