/- a part -/
import Derived.Test.YtfhamdobagjakaaHand
namespace Go.Proofs.Ytfhamdobagjakaa.Cards
open Go Go.RowKit Go.Proofs.YtfhamdobagjakaaW.PrintWords Go.Proofs.YtfhamdobagjakaaW.PrintLast
section
variable {P : Program} {ops : Array Oper} {md : Region.Mode}
def pathB (md:Region.Mode) (ops:Array Oper):List Nat->Array Bool->Bool
 | [],l=>(Region.ready md ops l).isEmpty
 | i :: is,l=>decide (Region.ready md ops l=[i]) && pathB md ops is (l.setIfInBounds i true)
theorem wpAny_of_path {Q':Exit->Act->World->Prop}:∀ (is:List Nat) (os:List Oper) (listed:Array Bool) (a:Act) (w:World),is.map (λi=>ops[i]?)=os.map some ->
  pathB md ops is listed=true->wpList P ops Q' os a w->wpAny P md ops Q' is.length listed a w
 | [],[],listed,a,w,_,hB,h=>⟨by simpa [pathB] using hB,h⟩
 | [],_ :: _,_,_,_,hl,_,_=>by simp at hl
 | _ :: _,[],_,_,_,hl,_,_=>by simp at hl
 | i :: is,o :: os,listed,a,w,hl,hB,h=>by
  simp only [List.map_cons,List.cons.injEq] at hl
  simp only [pathB,Bool.and_eq_true,decide_eq_true_eq] at hB
  refine ⟨λh1=>(by rw [hB.1] at h1;cases h1),λk hk=>?_⟩
  rw [hB.1] at hk
  have hik:k=i:=by simpa using hk
  subst hik
  have hw:wpOp P ops Q' k (wpList P ops Q' os) a w:=by unfold wpOp;simp only [hl.1];exact h
  exact wpOp_mono (λa' w' h'=>wpAny_of_path is os _ a' w' hl.2 hB.2 h') hw
end
end Go.Proofs.Ytfhamdobagjakaa.Cards
