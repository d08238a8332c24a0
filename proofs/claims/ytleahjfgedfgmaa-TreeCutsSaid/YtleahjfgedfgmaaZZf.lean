import Derived.Test.YtleahjfgedfgmaaZAmB
import Derived.Test.YtleahjfgedfgmaaZZA
namespace Go.Proofs.Ytleahjfgedfgmaa.Am
open Go Go.RowKit Go.Proofs
theorem put_same {k : Nat} {a : Act} (h : k < a.tmps.size) : a.put (some k) (a.tmps.getD k undef) = a:=by
  have hget : a.tmps.getD k undef = a.tmps[k]:=by simp [Array.getD_eq_getD_getElem?,h]
  have : a.tmps.setIfInBounds k (a.tmps.getD k undef) = a.tmps:=by
    apply Array.ext
    · simp
    · intro i h1 h2
      rw [Array.getElem_setIfInBounds]
      split
      · rename_i e
        subst e
        rfl
      · rfl
  simp only [Act.put,this]
theorem frz_sr {w0 w : World} {oa : OA} {st : St} {a : Act} (k : Nat) {d : D} (hd : toD st.hp (gt st.tm k) = some d) (hkn : k < st.nt) (hs : SR w0 oa st a w) : SR w0 oa ⟨(k,ofD d) :: st.tm,killL st.hp (idsW (gt st.tm k)),st.nt⟩ a w:=by
  obtain ⟨φ,hs⟩:=hs.open
  have hids:=toD_ids hd
  have hv:=ofD_vr (φ:=φ) (toD_kill hs.hr hids (hs.tm k) hd fun id h=>h)
  have hput:=(hs.kill _ hids).put (some k) hkn hv
  rw [put_same (by rw [hs.sz];exact hkn)] at hput
  exact hput.sr
theorem frzP_sr {w0 w : World} {oa : OA} {st : St} {a : Act} (k : Nat) {id : Nat} {l : List V} {ds : List D} (hk : gt st.tm k = .ptr id 0) (hg : go st.hp id = some (.box l)) (hd : toDs st.hp l = some ds) (hn : id ∉ l.flatMap idsV) (hkn : k < st.nt) (hs : SR w0 oa st a w) :
    SR w0 oa ⟨(k,.d (.ref (.agg ds))) :: st.tm,killL st.hp (id :: l.flatMap idsV),st.nt⟩ a w:=by
  obtain ⟨φ,hs⟩:=hs.open
  obtain ⟨hdl,hdg⟩:=toDs_get hd
  have hids : ∀ i ∈ id :: l.flatMap idsV,go st.hp i ≠ none:=by
    intro i hi
    rcases List.mem_cons.1 hi with rfl|hi
    · rw [hg];simp
    · simp only [List.mem_flatMap] at hi
      obtain ⟨z,hz,hi⟩:=hi
      obtain ⟨j,hj⟩:=List.getElem?_of_mem hz
      obtain ⟨d',_,ht⟩:=hdg j z hj
      exact toD1_ids ht i hi
  have hkill:=hs.kill _ hids
  obtain ⟨b,t,cs,hu,_,hh,hcl,h1,hr⟩:=hs.hr.obj id _ hg
  have hv:=hs.tm k
  rw [hk] at hv
  have hpv : a.tmps.getD k undef = .pointer (some ⟨b,0,none⟩):=by
    generalize a.tmps.getD k undef = Y at hv
    cases hv with
    | ptr _ _ b' hid =>
      have:=hid.symm.trans hu
      simp at this
      rw [this]
  have hlt : b < w.heap.size:=(Array.getElem?_eq_some_iff.1 hh).1
  have hokb : okB w0 oa φ (go (killL st.hp (id :: l.flatMap idsV))) w b:=by
    refine ⟨ours_ok (hs.hr.mine id _ _ b hg (by simp) hu rfl) hlt,fun i o v ho hne hv' he=>?_⟩
    rw [go_killL] at ho
    split at ho
    · cases ho;exact hne rfl
    · rename_i hni
      have hne2 : i ≠ id:=fun e=>hni (by simp [e])
      rcases hs.hr.inj i id o _ v _ ho hg hne (by simp) hne2 hv' hu with h2|h2
      · rw [he] at h2;cases h2
      · exact h2 (by rw [he];rfl)
  have hvr : VR φ w (okB w0 oa φ (go (killL st.hp (id :: l.flatMap idsV))) w) (.d (.ref (.agg ds))) (a.tmps.getD k undef):=by
    rw [hpv]
    have hlen : ds.length = cs.size:=by rw [hdl,hcl]
    refine .d _ _ (.ref _ b 0 (fun j=>cs.getD j undef) hokb (fun j hj=>?_) (fun j hj=>?_) fun j x hx=>?_)
    · have hj' : j < cs.size:=by rw [← hlen];exact hj
      have hget : cs[j]? = some (cs.getD j undef):=by simp [Array.getD_eq_getD_getElem?,hj']
      simp only [Nat.zero_add]
      rw [cell_of_row w b j cs t (0,0) hh];exact hget
    · have hj' : j < cs.size:=by rw [← hlen];exact hj
      exact h1 j _ (by simp [Array.getD_eq_getD_getElem?,hj'])
    · have hx' : ds[j]? = some x:=hx
      have hj : j < l.length:=by rw [← hdl];exact (List.getElem?_eq_some_iff.1 hx').1
      obtain ⟨d',hd',ht⟩:=hdg j l[j] (List.getElem?_eq_getElem hj)
      obtain rfl : x = d':=Option.some.inj (hx'.symm.trans hd')
      have hj' : j < cs.size:=by rw [hcl];exact hj
      refine toD1_kill hs.hr (ids:=id :: l.flatMap idsV) hids (hr j l[j] _ (List.getElem?_eq_getElem hj) (by simp [Array.getD_eq_getD_getElem?,hj'])) ht fun i hi=>?_
      exact List.mem_cons_of_mem _ (List.mem_flatMap.2 ⟨l[j],List.getElem_mem hj,hi⟩)
  have hput:=hkill.put (some k) hkn hvr
  rw [put_same (by rw [hs.sz];exact hkn)] at hput
  exact hput.sr
structure midW (st' : St) (s : St) : Prop where
  h : ∀ w0 oa a w,SR w0 oa s a w → SR w0 oa st' a w
section
variable {P : Program} {x x1 x2 x3 x4 x5 x6 x7 x8 x9 y : Code} {st : St} {Q : Exit → St → Prop}
theorem midW.go {st' : St} (h2 : AW P y st' Q) (s : St) (h : midW st' s) : AW P y s Q:=⟨fun w0 oa a w hs=>h2.h w0 oa a w (h.h w0 oa a w hs)⟩
theorem AW.w1 (st' : St) (h1 : AW P x1 st (thenA (midW st') Q)) (h2 : AW P y st' Q) : AW P (.seq x1 y) st Q:=AW.sq (midW.go h2) h1
theorem AW.w2 (st' : St) (h1 : AW P x1 st (thenA (fun s=>AW P x2 s (thenA (midW st') Q)) Q)) (h2 : AW P y st' Q) : AW P (.seq x1 (.seq x2 y)) st Q:=AW.sq (fun _ h=>AW.sq (midW.go h2) h) h1
theorem AW.w3 (st' : St) (h1 : AW P x1 st (thenA (fun s=>AW P x2 s (thenA (fun s=>AW P x3 s (thenA (midW st') Q)) Q)) Q)) (h2 : AW P y st' Q) : AW P (.seq x1 (.seq x2 (.seq x3 y))) st Q:=AW.sq (fun _ h=>AW.sq (fun _ h=>AW.sq (midW.go h2) h) h) h1
theorem AW.w4 (st' : St) (h1 : AW P x1 st (thenA (fun s=>AW P x2 s (thenA (fun s=>AW P x3 s (thenA (fun s=>AW P x4 s (thenA (midW st') Q)) Q)) Q)) Q)) (h2 : AW P y st' Q) : AW P (.seq x1 (.seq x2 (.seq x3 (.seq x4 y)))) st Q:=AW.sq (fun _ h=>AW.sq (fun _ h=>AW.sq (fun _ h=>AW.sq (midW.go h2) h) h) h) h1
end
theorem AW.wk {P : Program} {c : Code} {st st' : St} {Q : Exit → St → Prop} (hw : ∀ w0 oa a w,SR w0 oa st a w → SR w0 oa st' a w) (h : AW P c st' Q) : AW P c st Q:=⟨fun w0 oa a w hs=>h.h w0 oa a w (hw w0 oa a w hs)⟩
end Go.Proofs.Ytleahjfgedfgmaa.Am
