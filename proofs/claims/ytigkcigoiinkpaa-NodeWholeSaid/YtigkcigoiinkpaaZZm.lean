import Derived.Test.YtigkcigoiinkpaaZAmB
namespace Go.Proofs.Ytigkcigoiinkpaa.Am
open Go Go.RowKit Go.Proofs
structure midN (st' : St) (s : St) : Prop where
  h : ∃ ρ, Wk ρ s st'
structure midxN {ι : Type} (S : ι → St) (G : ι → Prop) (s : St) : Prop where
  h : ∃ i, G i ∧ ∃ ρ, Wk ρ s (S i)
section
variable {P : Program} {x x1 x2 x3 x4 x5 x6 x7 x8 x9 y : Code} {st : St} {Q : Exit → St → Prop}
theorem thenA.mono {n n' : St → Prop} (hn : ∀ s, n s → n' s) (e : Exit) (s : St) (h : thenA n Q e s) : thenA n' Q e s := by
  refine ⟨?_⟩
  have := h.h
  cases e with
  | normal => exact hn s this
  | _ => exact this
theorem midN.go {st' : St} (h2 : AW P y st' Q) (s : St) (h : midN st' s) : AW P y s Q := by
  obtain ⟨ρ, hw⟩ := h.h
  exact ⟨fun w0 oa a w hs => h2.h w0 oa a w (hw.sr hs)⟩
theorem midxN.go {ι : Type} {S : ι → St} {G : ι → Prop} (h2 : ∀ i, G i → AW P y (S i) Q) (s : St) (h : midxN S G s) : AW P y s Q := by
  obtain ⟨i, hg, ρ, hw⟩ := h.h
  exact ⟨fun w0 oa a w hs => (h2 i hg).h w0 oa a w (hw.sr hs)⟩
theorem AW.sq {n : St → Prop} (hn : ∀ s, n s → AW P y s Q) (h : AW P x st (thenA n Q)) : AW P (.seq x y) st Q := AW.seq (h.mono (thenA.mono hn))
theorem AW.m1 (st' : St) (h1 : AW P x1 st (thenA (midN st') Q)) (h2 : AW P y st' Q) : AW P (.seq x1 y) st Q := AW.sq (midN.go h2) h1
theorem AW.m9 (st' : St) (h1 : AW P x1 st (thenA (fun s => AW P x2 s (thenA (fun s => AW P x3 s (thenA (fun s => AW P x4 s (thenA (fun s => AW P x5 s (thenA (fun s => AW P x6 s (thenA (fun s => AW P x7 s (thenA (fun s => AW P x8 s (thenA (fun s => AW P x9 s (thenA (midN st') Q)) Q)) Q)) Q)) Q)) Q)) Q)) Q)) Q)) (h2 : AW P y st' Q) : AW P (.seq x1 (.seq x2 (.seq x3 (.seq x4 (.seq x5 (.seq x6 (.seq x7 (.seq x8 (.seq x9 y))))))))) st Q := AW.sq (fun _ h => AW.sq (fun _ h => AW.sq (fun _ h => AW.sq (fun _ h => AW.sq (fun _ h => AW.sq (fun _ h => AW.sq (fun _ h => AW.sq (fun _ h => AW.sq (midN.go h2) h) h) h) h) h) h) h) h) h1
end
end Go.Proofs.Ytigkcigoiinkpaa.Am
