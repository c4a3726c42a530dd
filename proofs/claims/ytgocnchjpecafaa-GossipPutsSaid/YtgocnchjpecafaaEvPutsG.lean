/- a part -/
import Derived.Test.YtgocnchjpecafaaPEvx19
import Derived.Test.YtgocnchjpecafaaEvMore
import Derived.Test.YtgocnchjpecafaaPEvx21
namespace Go.Proofs.Ytgocnchjpecafaa.PEv
open Go.RowKit Go.Proofs.YtgocnchjpecafaaW.PrintWords Go.Proofs.YtgocnchjpecafaaW.PrintLast Go.Proofs.Ytgocnchjpecafaa.ClockBase Go.Proofs.Ytgocnchjpecafaa.Wr
set_option linter.unusedVariables false
set_option linter.unusedSimpArgs false
theorem light1_ev (l:List S30) (i:Nat) (hi:i<l.length) (hn:((rd_T30 l (i:Int)).f2).length≤140737488355328) (next:∃ b,Ev (fun k=>w05_Light.l0 k l (wrap64 ((i:Int)+1))) b) (d:Nat):∀ (j:Nat),j+d=((rd_T30 l (i:Int)).f2).length→∃ b,Ev (fun k=>w05_Light.l1 k l (i:Int) (j:Int)) b:=by
 induction d with
 | zero =>
  intro j hj
  obtain ⟨b,hb⟩:=next
  refine ⟨b,Ev.step (f:=fun k=>w05_Light.l0 k l (wrap64 ((i:Int)+1))) (fun k=>?_) hb⟩
  simp only [w05_Light.l1]
  rw [if_pos (by omega),if_pos (by omega),if_neg (by omega)]
 | succ d ih =>
  intro j hj
  obtain ⟨b,hb⟩:=ih (j+1) (by omega)
  by_cases h1:(((rd_T48 ((rd_T30 l (i:Int)).f2) (j:Int)).f2).size:Int) > 100
  ·refine ⟨false,Ev.step (f:=fun _=>some false) (fun k=>?_) (Ev.now _)⟩
   simp only [w05_Light.l1]
   rw [if_pos (by omega),if_pos (by omega),if_pos (by omega),if_pos (by omega),if_pos h1]
  by_cases h2:(((rd_T48 ((rd_T30 l (i:Int)).f2) (j:Int)).f5).size:Int) > 100
  ·refine ⟨false,Ev.step (f:=fun _=>some false) (fun k=>?_) (Ev.now _)⟩
   simp only [w05_Light.l1]
   rw [if_pos (by omega),if_pos (by omega),if_pos (by omega),if_pos (by omega),if_neg h1,if_pos h2]
  ·refine ⟨b,Ev.step (f:=fun k=>w05_Light.l1 k l (i:Int) ((j+1:Nat):Int)) (fun k=>?_) hb⟩
   simp only [w05_Light.l1]
   rw [if_pos (by omega),if_pos (by omega),if_pos (by omega),if_pos (by omega),if_neg h1,if_neg h2,ck_w (by omega)]
theorem light0_ev (l:List S30) (hl:l.length≤140737488355328) (hn:∀ i:Nat,i<l.length→((rd_T30 l (i:Int)).f2).length≤140737488355328) (d:Nat):∀ (i:Nat),i+d=l.length→∃ b,Ev (fun k=>w05_Light.l0 k l (i:Int)) b:=by
 induction d with
 | zero =>
  intro i hi
  refine ⟨decide ((l.length:Int)≤40),Ev.step (f:=fun k=>w05_Light.j1 k l (i:Int) false) (fun k=>?_) (Ev.step (f:=fun _=>some (decide ((l.length:Int)≤40))) (fun k=>rfl) (Ev.now _))⟩
  simp only [w05_Light.l0]
  rw [if_neg (by omega)]
 | succ d ih =>
  intro i hi
  have h0:∀ k,w05_Light.l0 (k+1) l (i:Int)=w05_Light.j1 k l (i:Int) (decide ((i:Int)≤40)):=fun k=>by
   simp only [w05_Light.l0]
   rw [if_pos (by omega)]
  by_cases h40:(i:Int)≤40
  rotate_left
  ·refine ⟨decide ((l.length:Int)≤40),Ev.step h0 ?_⟩
   rw [decide_eq_false h40]
   exact Ev.step (f:=fun _=>some (decide ((l.length:Int)≤40))) (fun k=>rfl) (Ev.now _)
  have nx:=ih (i+1) (by omega)
  rw [←ck_w (by omega)] at nx
  obtain ⟨b,hb⟩:=light1_ev l i (by omega) (hn i (by omega)) nx _ 0 (Nat.zero_add _)
  have h2:∀ c:Bool,∃ b,Ev (fun k=>w05_Light.j2 k l (i:Int) c) b:=fun c=>by
   cases c with
   | true=>exact ⟨false,Ev.step (f:=fun _=>some false) (fun k=>rfl) (Ev.now _)⟩
   | false=>exact ⟨b,Ev.step (f:=fun k=>w05_Light.l1 k l (i:Int) 0) (fun k=>rfl) hb⟩
  have h1:∃ b,Ev (fun k=>w05_Light.j1 k l (i:Int) true) b:=by
   by_cases h20:(((rd_T30 l (i:Int)).f1).length:Int) > 20
   ·obtain ⟨b,hb⟩:=h2 true
    refine ⟨b,Ev.step (f:=fun k=>w05_Light.j2 k l (i:Int) true) (fun k=>?_) hb⟩
    simp only [w05_Light.j1]
    rw [if_pos trivial,if_pos (by omega),if_pos (by omega),if_pos h20]
   ·obtain ⟨b,hb⟩:=h2 (decide ((((rd_T30 l (i:Int)).f2).length:Int) > 30))
    refine ⟨b,Ev.step (f:=fun k=>w05_Light.j2 k l (i:Int) (decide ((((rd_T30 l (i:Int)).f2).length:Int) > 30))) (fun k=>?_) hb⟩
    simp only [w05_Light.j1]
    rw [if_pos trivial,if_pos (by omega),if_pos (by omega),if_neg h20]
  obtain ⟨b,hb⟩:=h1
  refine ⟨b,Ev.step h0 ?_⟩
  rw [decide_eq_true h40]
  exact hb
theorem light_ev (l:List S30) (hl:l.length≤140737488355328) (hn:∀ i:Nat,i<l.length→((rd_T30 l (i:Int)).f2).length≤140737488355328):∃ b,Ev (fun k=>w05_Light.f k l) b:=light0_ev l hl hn l.length 0 (by omega)
end Go.Proofs.Ytgocnchjpecafaa.PEv
namespace Go.Proofs.Ytgocnchjpecafaa.PEv
open Go.RowKit Go.Proofs.YtgocnchjpecafaaW.PrintWords Go.Proofs.YtgocnchjpecafaaW.PrintLast Go.Proofs.Ytgocnchjpecafaa.ClockBase Go.Proofs.Ytgocnchjpecafaa.Wr
set_option linter.unusedVariables false
set_option linter.unusedSimpArgs false
def effNe (x y:S48):Bool:=(!((x.f0) == (y.f0)) || (!((x.f1) == (y.f1)) || (!((x.f2.toList) == (y.f2.toList)) || (!((x.f3) == (y.f3)) || (!((x.f4) == (y.f4)) || (!((x.f5.toList) == (y.f5.toList))))))))
theorem effNe_self (x:S48):effNe x x=false:=by simp [effNe]
def esSame (l m:List S48) (i d:Nat):Bool:=(List.range' i d).all fun j=>!effNe (rd_T48 l (j:Int)) (rd_T48 m (j:Int))
theorem esSame_succ (l m:List S48) (i d:Nat):esSame l m i (d+1)=(!effNe (rd_T48 l (i:Int)) (rd_T48 m (i:Int)) && esSame l m (i+1) d):=by
 unfold esSame
 rw [List.range'_succ,List.all_cons]
theorem esSame_self (l:List S48) (i d:Nat):esSame l l i d=true:=by
 unfold esSame
 exact List.all_eq_true.mpr fun j _=>by rw [effNe_self];rfl
def evS (a b:Int) (p:List Int) (es:List S48) (a' b':Int) (p':List Int) (es':List S48):Bool :=
 decide (a=a'∧b=b') && (decide (p=p') && (decide (es.length=es'.length) && esSame es es' 0 es.length))
theorem evS_self (a b:Int) (p:List Int) (es:List S48):evS a b p es a b p es=true:=by
 unfold evS
 rw [esSame_self]
 simp
theorem refSame_loop (a b:Int) (p:List Int) (es:List S48) (a' b':Int) (p':List Int) (es':List S48) (hl:es.length=es'.length) (hn:es.length≤140737488355328) (d:Nat):∀ (i:Nat),i+d=es.length→Ev (fun k=>r05_Same.l0 k (i:Int) a b p es a' b' p' es') (esSame es es' i d):=by
 induction d with
 | zero =>
  intro i hi
  refine Ev.step (f:=fun _=>some true) (fun k=>?_) (Ev.now _)
  simp only [r05_Same.l0]
  rw [if_neg (by omega)]
 | succ d ih =>
  intro i hi
  rw [esSame_succ]
  cases hc:effNe (rd_T48 es (i:Int)) (rd_T48 es' (i:Int)) with
  | true =>
   refine Ev.step (f:=fun _=>some false) (fun k=>?_) (Ev.now _)
   simp only [r05_Same.l0]
   rw [if_pos (by omega),if_pos (by omega),if_pos (by omega)]
   exact if_pos hc
  | false =>
   refine Ev.step (f:=fun k=>r05_Same.l0 k ((i+1:Nat):Int) a b p es a' b' p' es') (fun k=>?_) (ih (i+1) (by omega))
   simp only [r05_Same.l0]
   rw [if_pos (by omega),if_pos (by omega),if_pos (by omega),ck_w (by omega)]
   exact if_neg (fun h=>absurd ((show effNe (rd_T48 es (i:Int)) (rd_T48 es' (i:Int))=true from h).symm.trans hc) (by decide))
theorem refSameAll_ev (a b:Int) (p:List Int) (es:List S48) (a' b':Int) (p':List Int) (es':List S48) (hp:p.length≤140737488355328) (hn:es.length≤140737488355328):Ev (fun k=>r05_Same.f k a b p es a' b' p' es') (evS a b p es a' b' p' es'):=by
 have no:Ev (fun k=>r05_Same.j0 k true a b p es a' b' p' es') false:=Ev.step (f:=fun _=>some false) (fun k=>rfl) (Ev.now _)
 unfold r05_Same.f evS
 by_cases h1:a=a'∧b=b'
 rotate_left
 ·rw [decide_eq_false h1,Bool.false_and]
  refine ck_if ?_ no
  by_cases ha:a=a'
  ·have hb:¬ b=b':=fun hb=>h1 ⟨ha,hb⟩
   simp [hb]
  ·simp [ha]
 obtain ⟨rfl,rfl⟩:=h1
 rw [decide_eq_true ⟨rfl,rfl⟩,Bool.true_and]
 refine ck_else (by simp) ?_
 refine Ev.bind (same_ev p p' hp) ?_
 by_cases h2:p=p'
 rotate_left
 ·rw [decide_eq_false h2,Bool.false_and]
  exact ck_else (by decide) no
 subst h2
 rw [decide_eq_true rfl,Bool.true_and]
 refine ck_if rfl ?_
 by_cases h3:es.length=es'.length
 rotate_left
 ·rw [decide_eq_false h3,Bool.false_and]
  have e:((es.length:Int) != (es'.length:Int))=true:=by simp;omega
  rw [e]
  exact no
 rw [decide_eq_true h3,Bool.true_and]
 have e:((es.length:Int) != (es'.length:Int))=false:=by simp;omega
 rw [e]
 exact Ev.step (f:=fun k=>r05_Same.l0 k 0 a b p es a b p es') (fun k=>rfl) (refSame_loop a b p es a b p es' h3 hn es.length 0 (by omega))
theorem eqC_loop (a b:List Int) (hab:a.length=b.length) (hn:a.length≤140737488355328) (d:Nat):∀ (i:Nat),i+d=a.length→Ev (fun k=>api_Clock_int_69.l0 k a b (a.length:Int) (i:Int)) (decide (a.drop i=b.drop i)):=by
 induction d with
 | zero =>
  intro i hi
  refine Ev.step (f:=fun _=>some (decide (a.drop i=b.drop i))) (fun k=>?_) (Ev.now _)
  simp only [api_Clock_int_69.l0]
  rw [if_neg (by omega),List.drop_eq_nil_of_le (by omega),List.drop_eq_nil_of_le (by omega)]
  rfl
 | succ d ih =>
  intro i hi
  have h1:i<a.length:=by omega
  have h2:i<b.length:=by omega
  rw [List.drop_eq_getElem_cons h1,List.drop_eq_getElem_cons h2,ck_cons]
  by_cases h:a[i]=b[i]
  ·rw [decide_eq_true h,Bool.true_and]
   refine Ev.step (f:=fun k=>api_Clock_int_69.l0 k a b (a.length:Int) ((i+1:Nat):Int)) (fun k=>?_) (ih (i+1) (by omega))
   simp only [api_Clock_int_69.l0]
   rw [if_pos (by omega),if_pos (by omega),if_pos (by omega),if_pos (by omega),ck_rd h1,ck_rd h2,if_pos h,ck_w (by omega)]
  ·rw [decide_eq_false h,Bool.false_and]
   refine Ev.step (f:=fun _=>some false) (fun k=>?_) (Ev.now _)
   simp only [api_Clock_int_69.l0]
   rw [if_pos (by omega),if_pos (by omega),if_pos (by omega),if_pos (by omega),ck_rd h1,ck_rd h2,if_neg h]
theorem eqC_ev (a b:List Int) (hn:a.length≤140737488355328):Ev (fun k=>api_Clock_int_69.f k a b) (decide (a=b)):=by
 unfold api_Clock_int_69.f
 by_cases h:a.length=b.length
 ·refine ck_if (by omega) ?_
  exact eqC_loop a b h hn a.length 0 (by omega)
 ·refine ck_else (by omega) ?_
  rw [decide_eq_false (fun e=>h (by rw [e]))]
  exact Ev.now _
theorem eqE_loop (l m:List S48) (hl:l.length=m.length) (hn:l.length≤140737488355328) (d:Nat):∀ (i:Nat),i+d=l.length→Ev (fun k=>api_Effect_70.l0 k l m (l.length:Int) (i:Int)) (esSame l m i d):=by
 induction d with
 | zero =>
  intro i hi
  refine Ev.step (f:=fun _=>some true) (fun k=>?_) (Ev.now _)
  simp only [api_Effect_70.l0]
  rw [if_neg (by omega)]
 | succ d ih =>
  intro i hi
  rw [esSame_succ]
  cases hc:effNe (rd_T48 l (i:Int)) (rd_T48 m (i:Int)) with
  | true =>
   refine Ev.step (f:=fun _=>some false) (fun k=>?_) (Ev.now _)
   simp only [api_Effect_70.l0]
   rw [if_pos (by omega),if_pos (by omega),if_pos (by omega),if_pos (by omega)]
   exact if_pos hc
  | false =>
   refine Ev.step (f:=fun k=>api_Effect_70.l0 k l m (l.length:Int) ((i+1:Nat):Int)) (fun k=>?_) (ih (i+1) (by omega))
   simp only [api_Effect_70.l0]
   rw [if_pos (by omega),if_pos (by omega),if_pos (by omega),if_pos (by omega),ck_w (by omega)]
   exact if_neg (fun h=>absurd ((show effNe (rd_T48 l (i:Int)) (rd_T48 m (i:Int))=true from h).symm.trans hc) (by decide))
theorem eqE_ev (l m:List S48) (hn:l.length≤140737488355328):Ev (fun k=>api_Effect_70.f k l m) (decide (l.length=m.length) && esSame l m 0 l.length):=by
 unfold api_Effect_70.f
 by_cases h:l.length=m.length
 ·refine ck_if (by omega) ?_
  rw [decide_eq_true h,Bool.true_and]
  exact eqE_loop l m h hn l.length 0 (by omega)
 ·refine ck_else (by omega) ?_
  rw [decide_eq_false h]
  exact Ev.now _
theorem evSameAll_ev (a b:Int) (p:List Int) (es:List S48) (a' b':Int) (p':List Int) (es':List S48) (hp:p.length≤140737488355328) (hn:es.length≤140737488355328):Ev (fun k=>event_Same.f k a b p es a' b' p' es') (evS a b p es a' b' p' es'):=by
 unfold event_Same.f evS
 by_cases h1:a=a'∧b=b'
 rotate_left
 ·rw [decide_eq_false h1,Bool.false_and]
  refine ck_else ?_ (Ev.now _)
  intro h
  simp at h
  exact h1 h
 obtain ⟨rfl,rfl⟩:=h1
 rw [decide_eq_true ⟨rfl,rfl⟩,Bool.true_and]
 refine ck_if (by simp) ?_
 refine Ev.bind (eqC_ev p p' hp) ?_
 by_cases h2:p=p'
 rotate_left
 ·rw [decide_eq_false h2,Bool.false_and]
  exact ck_else (by decide) (Ev.now _)
 subst h2
 rw [decide_eq_true rfl,Bool.true_and]
 refine ck_if rfl ?_
 exact Ev.bind (eqE_ev es es' hn) (Ev.now _)
end Go.Proofs.Ytgocnchjpecafaa.PEv
