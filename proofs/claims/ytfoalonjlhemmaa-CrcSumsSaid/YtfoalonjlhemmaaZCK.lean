import Derived.Test.YtfoalonjlhemmaaZCrc
import Derived.Test.YtfoalonjlhemmaaZFA
set_option linter.unusedVariables false
set_option linter.unusedSimpArgs false
namespace Go.Proofs.Ytfoalonjlhemmaa.Am
open Go Go.RowKit Go.Proofs Go.Proofs.YtfoalonjlhemmaaW.PrintWords Go.Proofs.YtfoalonjlhemmaaW.PrintLast Go.Proofs.YtfoalonjlhemmaaW.PrintMore
theorem kd_of_rd {w : World} {ok : Nat → Prop} {l : List Int} {y : Value} (h : Rd w ok (.list (l.map mB)) y) (hl : l.length ≤ 9223372036854775807) : ∃ A c, y = .slice A l.length c ∧ l.length ≤ c ∧ Kd.C (Kd.int .u8) w A l.length l ∧ ∀ ad, A = some ad → 0 < l.length → ok ad.block := by
  generalize hd : D.list (l.map mB) = d at h
  cases h with
  | nil A c =>
    simp only [D.list.injEq, List.map_eq_nil_iff] at hd
    subst hd
    exact ⟨A, c, rfl, Nat.zero_le _, ⟨rfl, hl, fun h => absurd h (by simp)⟩, fun _ _ h => absurd h (by simp)⟩
  | list l' sz b o c vals hc hok hsz hdd hv h1 hh =>
    simp only [D.list.injEq] at hd
    subst hd
    simp only [List.length_map] at hc hv h1
    refine ⟨some ⟨b, o, none⟩, c, by simp, hc, ⟨rfl, hl, fun h0 => ⟨⟨b, o, none⟩, rfl, fun j p hp => ⟨[.int .u8 p], rfl, rfl, fun i u hu => ?_⟩⟩⟩, fun ad e _ => by cases e; exact hok⟩
    have hjl : j < l.length := (List.getElem?_eq_some_iff.1 hp).1
    obtain rfl : sz = 1 := by
      have := hdd (mB l[j]) (List.mem_map_of_mem (List.getElem_mem _))
      simpa [mB, D.cells] using this.symm
    have e1 := hh j 0 (mB p) (mB p) (by simp [hp]) rfl
    rw [Nat.mul_one, Nat.add_zero] at e1
    have e2 := hv j (by omega)
    generalize vals j = q at e1 e2
    cases i with
    | zero =>
      simp only [List.getElem?_cons_zero, Option.some.injEq] at hu
      subst hu
      cases e1
      show w.cell? ((⟨b, o, none⟩ : Addr).add (j * 1 + 0)) = _
      rw [Addr.add_lit, Nat.mul_one, Nat.add_zero]
      exact e2
    | succ i => simp at hu
  | _ => cases hd
def RT (m : Bool) (o : Obj) : Prop := ∃ cs, o = .cells cs 53 (0, 0) ∧ ((m = true ∧ Crc.Done cs) ∨ (m = false ∧ Crc.Fresh cs))
theorem go_one {k id : Nat} {x o : Ob} (h : go [(k, x)] id = some o) : id = k ∧ o = x := by
  simp only [go] at h
  split at h
  · cases h; exact ⟨‹_›, rfl⟩
  · cases h
theorem opq_hr {w0 w w' : World} {oa : OA} {φ : Nat → Option Value} {k b : Nat} {R R' : Obj → Prop} {x : Obj} (h : HR w0 oa φ (go [(k, .opq R)]) w) (hk : φ k = some (.pointer (some ⟨b, 0, none⟩))) (hg : w.grownBy w' (some b)) (hx : w'.heap[b]? = some x) (hr : R' x) : HR w0 oa φ (go [(k, .opq R')]) w' where
  below := h.below.grown hg fun i e => by cases e; exact h.mine k (.opq R) _ _ (by simp [go]) (by simp) hk rfl
  obj id o ho := by obtain ⟨rfl, rfl⟩ := go_one ho; exact ⟨b, x, hk, hx, hr⟩
  mine id o v b' ho hn hv hb := by obtain ⟨rfl, rfl⟩ := go_one ho; exact h.mine id (.opq R) v b' (by simp [go]) (by simp) hv hb
  pin id v hv := by
    obtain ⟨g1, g2, g3⟩ := h.pin id v hv
    have e : id = k := by
      obtain ⟨o, ho⟩ := Option.ne_none_iff_exists'.1 g2
      exact (go_one ho).1
    subst e
    exact ⟨g1, by simp [go], fun o _ _ => g3 (.opq R) (by simp [go]) (by simp)⟩
  fresh id hid := h.fresh id (by
    simp only [go] at hid ⊢
    split at hid
    · cases hid
    · rename_i e; rw [if_neg e])
  inj id id' o o' v v' ho ho' hn hn' hne := by obtain ⟨rfl, rfl⟩ := go_one ho; obtain ⟨rfl, rfl⟩ := go_one ho'; exact absurd rfl hne
def Sp_crc_New (ds : List D) (out : Out) : Prop := ds = [] ∧ out = ⟨.ptr 0 0, [(0, .opq (RT false))]⟩
theorem good_crc_New : Good Try.prog 10 Sp_crc_New := by
  rintro ds out ⟨rfl, rfl⟩ rd args w hsz _
  obtain rfl : args = #[] := Array.eq_empty_of_size_eq_zero (by simpa using hsz)
  refine (Crc.new_calls w).mono ?_
  rintro e w' ⟨rfl, rfl⟩
  refine ⟨_, rfl, fun id => if id = 0 then some (.pointer (some ⟨w.heap.size, 0, none⟩)) else none, ?_, .ptr 0 0 _ (by simp)⟩
  have hs := Crc.new_block w
  exact {
    below := (Bel.refl w (OA.no rd)).alloc _
    obj := fun id o ho => by obtain ⟨rfl, rfl⟩ := go_one ho; exact ⟨w.heap.size, _, by simp, hs, Crc.zc, rfl, .inr ⟨rfl, Crc.zc_fresh⟩⟩
    mine := fun id o v b' ho hn hv hb => by
      obtain ⟨rfl, rfl⟩ := go_one ho
      simp only [if_true, Option.some.injEq] at hv
      subst hv
      simp only [blk, Option.some.injEq] at hb
      exact .inl (by omega)
    pin := fun id v hv => by cases hv
    fresh := fun id hid => by
      simp only [go] at hid
      split at hid
      · cases hid
      · rename_i e; simp [e]
    inj := fun id id' o o' v v' ho ho' hn hn' hne => by obtain ⟨rfl, rfl⟩ := go_one ho; obtain ⟨rfl, rfl⟩ := go_one ho'; exact absurd rfl hne }
theorem ent_crc_New : Ent Try.prog 10 := ⟨_, Try.func10, rfl, by decide⟩
def Sm_crc_Table_Add (vs : List V) (lent : List (Nat × Ob)) (out : Out) : Prop := ∃ (m : Bool) (s : Int) (l : List Int), vs = [.ptr 1000000 0, .d (.v (.int .u32 s)), .d (.list (l.map mB))] ∧ lent = [(1000000, .opq (RT m))] ∧ 0 ≤ s ∧ s < 4294967296 ∧ l.length ≤ 9223372036854775807 ∧
  out = ⟨.d (.v (.int .u32 (QC.crcAdd s l))), [(1000000, .opq (RT (m || decide (0 < l.length))))]⟩
def Sm_crc_Table_Sum (vs : List V) (lent : List (Nat × Ob)) (out : Out) : Prop := ∃ (m : Bool) (l : List Int), vs = [.ptr 1000000 0, .d (.list (l.map mB))] ∧ lent = [(1000000, .opq (RT m))] ∧ l.length ≤ 9223372036854775807 ∧
  out = ⟨.d (.v (.int .u32 (QC.crcSum l))), [(1000000, .opq (RT (m || decide (0 < l.length))))]⟩
theorem tab_open {w : World} {oa : OA} {φ0 : Nat → Option Value} {m : Bool} {y : Value} (hr : HR w oa φ0 (go [(1000000, .opq (RT m))]) w) (hv : VR φ0 w (okB w oa φ0 (go [(1000000, .opq (RT m))]) w) (.ptr 1000000 0) y) :
    ∃ b cs, y = .pointer (some ⟨b, 0, none⟩) ∧ φ0 1000000 = some (.pointer (some ⟨b, 0, none⟩)) ∧ w.heap[b]? = some (.cells cs 53 (0, 0)) ∧ ((m = true ∧ Crc.Done cs) ∨ (m = false ∧ Crc.Fresh cs)) ∧ ∀ b', okB w oa φ0 (go [(1000000, .opq (RT m))]) w b' → b' ≠ b := by
  cases hv with
  | ptr _ _ b hid =>
    obtain ⟨b2, x, hu, hh, cs, rfl, hc⟩ := hr.obj 1000000 _ rfl
    rw [hid] at hu; cases hu
    exact ⟨b, cs, rfl, hid, hh, hc, fun b' hb' e => hb'.2 1000000 _ _ rfl (by simp) hid (by rw [e]; rfl)⟩
theorem args2 {args : Array Value} (h : args.size = 2) : ∃ x y, args = #[x, y] := by
  obtain ⟨ys⟩ := args
  match ys, h with
  | [x, y], _ => exact ⟨x, y, rfl⟩
theorem args3 {args : Array Value} (h : args.size = 3) : ∃ x y z, args = #[x, y, z] := by
  obtain ⟨ys⟩ := args
  match ys, h with
  | [x, y, z], _ => exact ⟨x, y, z, rfl⟩
theorem vr_d {φ : Nat → Option Value} {w : World} {ok : Nat → Prop} {d : D} {y : Value} (h : VR φ w ok (.d d) y) : Rd w ok d y := by cases h; assumption
theorem goodM_crc_Table_Add : GoodM Try.prog 16 Sm_crc_Table_Add := by
  rintro vs lent out ⟨m, s, l, rfl, rfl, hs0, hs1, hl, rfl⟩ oa φ0 args w hsz hr hrd
  obtain ⟨p, x, y, rfl⟩ := args3 hsz
  obtain ⟨b, cs, rfl, hφ, hb, hc, hne⟩ := tab_open hr (hrd 0 _ p rfl rfl)
  have hx := vr_d (hrd 1 _ x rfl rfl)
  cases hx
  obtain ⟨A, c, rfl, hcap, hX, hA⟩ := kd_of_rd (vr_d (hrd 2 _ y rfl rfl)) hl
  have hf : ∀ ad, A = some ad → 0 < l.length → ad.block ≠ b := fun ad e h0 => hne _ (hA ad e h0)
  rcases hc with ⟨rfl, hd⟩ | ⟨rfl, hd⟩
  · refine (Crc.add_done b cs A c l s w hd hb hX hs0 hs1).mono ?_
    rintro e w' ⟨rfl, rfl⟩
    exact ⟨_, rfl, φ0, opq_hr hr hφ (World.grownBy.refl _ _) hb ⟨cs, rfl, .inl ⟨by simp, hd⟩⟩, .d _ _ (.v _)⟩
  · by_cases hz : 0 < l.length
    · refine (Crc.add_first b cs A c l s w hd hb hX hs0 hs1 hf hz).mono ?_
      rintro e w' ⟨rfl, hg, hh⟩
      exact ⟨_, rfl, φ0, opq_hr hr hφ hg hh ⟨Crc.made cs, rfl, .inl ⟨by simp [hz], Crc.made_done hd⟩⟩, .d _ _ (.v _)⟩
    · obtain rfl : l = [] := List.eq_nil_of_length_eq_zero (by omega)
      refine (Crc.add_nil b A c s w).mono ?_
      rintro e w' ⟨rfl, rfl⟩
      exact ⟨_, rfl, φ0, opq_hr hr hφ (World.grownBy.refl _ _) hb ⟨cs, rfl, .inr ⟨by simp, hd⟩⟩, .d _ _ (.v _)⟩
theorem goodM_crc_Table_Sum : GoodM Try.prog 11 Sm_crc_Table_Sum := by
  rintro vs lent out ⟨m, l, rfl, rfl, hl, rfl⟩ oa φ0 args w hsz hr hrd
  obtain ⟨p, y, rfl⟩ := args2 hsz
  obtain ⟨b, cs, rfl, hφ, hb, hc, hne⟩ := tab_open hr (hrd 0 _ p rfl rfl)
  obtain ⟨A, c, rfl, hcap, hX, hA⟩ := kd_of_rd (vr_d (hrd 1 _ y rfl rfl)) hl
  have hf : ∀ ad, A = some ad → 0 < l.length → ad.block ≠ b := fun ad e h0 => hne _ (hA ad e h0)
  rcases hc with ⟨rfl, hd⟩ | ⟨rfl, hd⟩
  · refine (Crc.sum_done b cs A c l w hd hb hX).mono ?_
    rintro e w' ⟨rfl, rfl⟩
    exact ⟨_, rfl, φ0, opq_hr hr hφ (World.grownBy.refl _ _) hb ⟨cs, rfl, .inl ⟨by simp, hd⟩⟩, .d _ _ (.v _)⟩
  · by_cases hz : 0 < l.length
    · refine (Crc.sum_first b cs A c l w hd hb hX hf hz).mono ?_
      rintro e w' ⟨rfl, hg, hh⟩
      exact ⟨_, rfl, φ0, opq_hr hr hφ hg hh ⟨Crc.made cs, rfl, .inl ⟨by simp [hz], Crc.made_done hd⟩⟩, .d _ _ (.v _)⟩
    · obtain rfl : l = [] := List.eq_nil_of_length_eq_zero (by omega)
      refine (Crc.sum_nil b A c w).mono ?_
      rintro e w' ⟨rfl, rfl⟩
      exact ⟨_, rfl, φ0, opq_hr hr hφ (World.grownBy.refl _ _) hb ⟨cs, rfl, .inr ⟨by simp, hd⟩⟩, .d _ _ (.v _)⟩
theorem ent_crc_Table_Add : Ent Try.prog 16 := ⟨_, Try.func16, rfl, by decide⟩
theorem ent_crc_Table_Sum : Ent Try.prog 11 := ⟨_, Try.func11, rfl, by decide⟩
end Go.Proofs.Ytfoalonjlhemmaa.Am
