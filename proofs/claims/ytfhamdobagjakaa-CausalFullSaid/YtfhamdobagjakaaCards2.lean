/- a part -/
import Derived.Test.YtfhamdobagjakaaHand
namespace Go.Proofs.Ytfhamdobagjakaa.Cards
open Go Go.RowKit Go.Proofs.YtfhamdobagjakaaW.PrintWords Go.Proofs.YtfhamdobagjakaaW.PrintLast
set_option linter.unusedVariables false
set_option linter.unusedSimpArgs false
section
variable {P : Program}
def okB3 (l:List Oper) (pre:List Nat) (n:Nat):Bool :=
 goodB l.toArray (listedOf l.length pre) n && backB l.toArray && bareB l.toArray n && (List.range l.length).all λj=>(listedOf l.length pre).getD j false == pre.contains j
theorem any_cards2 {l:List Oper} {Q:Exit->Act->World->Prop} {a1:Act} {w:World} {f:Nat} {listed:Array Bool} (pre:List Nat) (n:Nat) (S:World->Prop) (φs:List Card) {F:(Nat->Value)->Act}
  (hl:listedOf l.length pre=listed) (hf:decide (cnt n (listedOf l.length pre)+(l.length - n)<=f)=true) (hB:okB3 l pre n=true) (hF:∀ vs,fill (λj=>!pre.contains j) vs (l.take n) 0 a1=F vs)
  (hS0:S w) (hS:∀ w w',Below w.heap.size w w'->S w->S w') (hstay:stays φs) (hsteps:steps P l.toArray S φs F pre (l.take n) 0)
  (hend:∀ (vs:Nat->Value) (lo hi:Nat->Nat) (w:World),S w->(∀ j,j<n->pre.contains j=false->holds φs j (vs j) w (lo j) (hi j))->True->wpAny P .any l.toArray Q (l.length - n) (headB n (listedOf l.length pre)) (F vs) w) :
  wpAny P .any l.toArray Q f listed a1 w:=by
 simp only [okB3,Bool.and_eq_true] at hB
 obtain ⟨⟨⟨hgood,hback⟩,hbare⟩,hpre⟩:=hB
 have hn:n<l.length:=by
  simp only [goodB,Bool.and_eq_true,decide_eq_true_eq] at hgood
  simpa using hgood.1.1.1.1.1.1.1.1.2
 have hp:∀ j,j<n->(listedOf l.length pre).getD j false=pre.contains j:=λj hj=>by
  have:=List.all_eq_true.1 hpre j (List.mem_range.2 (by omega))
  simpa using this
 have hmask:∀ vs,fill (λj=>!(listedOf l.length pre).getD j false) vs (l.toArray.toList.take n) 0 a1=F vs:=λvs=>by
  rw [<-hF vs]
  refine fill_congr _ _ _ _ _ _ _ (λj hj=>⟨?_,λ_=>rfl⟩)
  have hjn:0+j<n:=by simp at hj;omega
  rw [hp _ hjn]
 have hsz:l.toArray.size=l.length:=by simp
 subst hl
 refine wpAny_cards (Q:=Q) (a1:=a1) (P:=P) (ops:=l.toArray) (n:=n) (l1:=listedOf l.length pre) S (holds φs) hgood hback (λi o hi _ ho _ _ _ _ _ _=>.inl (bareB_get hbare hi ho)) (λi o hi h1i ho vs lo hi_ w hw hpd=>by
  have:=steps_at hsteps i o (by rw [List.getElem?_take,if_pos hi];simpa using ho) (by rw [Nat.zero_add,<-hp i hi];exact h1i) vs lo hi_ w hw (λj hj hjp=>by
   rw [Nat.zero_add] at hj
   have hji:j<i:=by
    obtain ⟨oj,hoj,e,he,hb,hon⟩:=Region.waitsFor_spec hj
    have hlt:=List.all_eq_true.1 hback i (List.mem_range.2 (Array.getElem?_eq_some_iff.1 hoj).1)
    simp only [hoj] at hlt
    have:=Array.all_eq_true_iff_forall_mem.1 hlt e he
    simp only [hb,Bool.not_true,Bool.false_or,decide_eq_true_eq] at this
    omega
   exact hpd j (by omega) (by rw [hp j (by omega)];exact hjp) hj)
  rw [Nat.zero_add,<-hmask vs] at this
  exact does_mono (λv w' hv=>⟨hv.1,hS _ _ hv.2 hw,hv.2.size,λj u a b hu=>stays_holds hstay j u w w' a b hv.2 hu⟩) this) (λvs lo hi_ w hw hpd hap=>by
  rw [hmask vs,hsz]
  exact hend vs lo hi_ w hw (λj hj hjp=>hpd j hj (by rw [hp j hj];exact hjp)) trivial) w hS0 f (by rw [hsz];exact of_decide_eq_true hf)
end
end Go.Proofs.Ytfhamdobagjakaa.Cards
