/- a part -/
import Derived.Test.YtfhamdobagjakaaHand
namespace Go.Proofs.Ytfhamdobagjakaa.Hand
open Go.RowKit Go.Proofs.YtfhamdobagjakaaW.PrintWords Go.Proofs.YtfhamdobagjakaaW.PrintLast Go.Proofs.YtfhamdobagjakaaW.PrintMore Go.Proofs.Ytfhamdobagjakaa.Cards
set_option linter.unusedVariables false
set_option linter.unusedSimpArgs false
theorem put4 {w:World} {g t:Nat} {a b c d a' b' c' d':Value} (h:w.heap[g]? = some (.cells #[a,b,c,d] t (0,0))):((((w.setCell ⟨g,0,none⟩ a').setCell ⟨g,1,none⟩ b').setCell ⟨g,2,none⟩ c').setCell ⟨g,3,none⟩ d').heap[g]? = some (.cells #[a',b',c',d'] t (0,0)) :=
 blk_put (cs:=#[a',b',c',d]) (blk_put (cs:=#[a',b',c,d]) (blk_put (cs:=#[a',b,c,d]) (blk_put (cs:=#[a,b,c,d]) h 0 _ rfl) 1 _ rfl) 2 _ rfl) 3 _ rfl
theorem below_put4 {w0 w:World} {g:Nat} {a' b' c' d':Value} (h:Below w0.heap.size w0 w) (hg:w0.heap.size<=g):Below w0.heap.size w0 ((((w.setCell ⟨g,0,none⟩ a').setCell ⟨g,1,none⟩ b').setCell ⟨g,2,none⟩ c').setCell ⟨g,3,none⟩ d') :=
 below_set (below_set (below_set (below_set h hg) hg) hg) hg
theorem lit1_F {α:Type} {d:Kd α} {x:α} {cs:Array Value} (W:World) (e:Nat) (hK:∀ w w' x c,d.K w x c->d.K w' x c) (hk:d.K W x cs.toList):Kd.F d (W.alloc (.cells cs e)) (λj=>j=W.heap.size) (some ⟨W.heap.size,0,none⟩) 1 [x]:=by
 intro W' hW
 have hb:W'.heap[W.heap.size]? = some (.cells cs e (0,0)):=(hW _ rfl (by simp)).trans (heap_alloc_new W _)
 refine ⟨rfl,by simp,λ_=>⟨_,rfl,λj p hj=>?_⟩⟩
 rcases j with _|j
 ·simp only [List.getElem?_cons_zero,Option.some.injEq] at hj
  subst hj
  refine ⟨cs.toList,d.K_len hk,hK _ _ _ _ hk,λi u hu=>?_⟩
  rw [Nat.zero_mul,Nat.zero_add,add_plain]
  exact(blk_cell hb i).trans (by simpa using hu)
 ·simp at hj
end Go.Proofs.Ytfhamdobagjakaa.Hand
