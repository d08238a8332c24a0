import Derived.Test.YtleahjfgedfgmaaZZA
namespace Go.Proofs.Ytleahjfgedfgmaa.Am
open Go Go.RowKit Go.Proofs
theorem nilB_sr {w0 w : World} {oa : OA} {st : St} {a : Act} (id n j e sz : Nat) {l : List V} (hg : go st.hp id = some (.box l)) (hj : l[j]? = some .nil) (hn : go st.hp n = none) (hsz : 0 < sz) (hs : SR w0 oa st a w) :
    SR w0 oa ⟨st.tm,(id,.box (l.set j (.sl n sz 0 0 true))) :: (n,.row e sz []) :: st.hp,st.nt⟩ a w:=by
  obtain ⟨φ,hs⟩:=hs.open
  obtain ⟨φ',hs',hv'⟩:=hs.newrow n hn e sz [] (.slice none 0 0) [] hsz (Below.refl _ _) (World.ownsRow_nil w w.heap.size e sz) Rw.nil
  have hne : id ≠ n:=fun e=>by rw [e,hn] at hg;cases hg
  have hg' : go (so st.hp n (.row e sz [])) id = some (.box l):=by rw [go_so,if_neg hne];exact hg
  obtain ⟨b,t,cs,hu,hb,hh,hl,h1,hr⟩:=hs'.hr.obj id _ hg'
  have key:=hs'.hr.touch hg' (by simp) (ob':=.box (l.set j (.sl n sz 0 0 true))) (by simp) hu rfl (w':=w) rfl hs'.hr.below (fun _ _=>rfl) ?_
  · exact (hs'.heap (fun _ _ hv=>hv) key).sr
  · intro ok hok
    refine ⟨b,t,cs,hu,hb,hh,by rw [List.length_set];exact hl,h1,fun k x y hx hy=>?_⟩
    rw [List.getElem?_set] at hx
    split at hx
    · rename_i e
      subst e
      have hjl : j < l.length:=(List.getElem?_eq_some_iff.1 hj).1
      have hx2 : x = .sl n sz 0 0 true:=by
        have h9 : some (V.sl n sz 0 0 true) = some x:=by simpa [hjl] using hx
        cases h9;rfl
      have hnil:=hr j _ y hj hy
      cases hnil
      rw [hx2]
      exact hv'.mono (fun _ _ hv=>hv) (fun _ _=>rfl) (fun b hb=>(hok b hb).1)
    · exact (hr k x y hx hy).mono (fun _ _ hv=>hv) (fun _ _=>rfl) (fun b hb=>(hok b hb).1)
end Go.Proofs.Ytleahjfgedfgmaa.Am
