/- a part -/
import Derived.Test.YtgocnchjpecafaaEvPure
import Derived.Test.YtgocnchjpecafaaPEvx27
import Derived.Test.YtgocnchjpecafaaPEvx29
namespace Go.Proofs.Ytgocnchjpecafaa.PEv
open Go.RowKit Go.Proofs.YtgocnchjpecafaaW.PrintWords Go.Proofs.YtgocnchjpecafaaW.PrintLast Go.Proofs.Ytgocnchjpecafaa.ClockBase Go.Proofs.Ytgocnchjpecafaa.Wr
set_option linter.unusedVariables false
set_option linter.unusedSimpArgs false
end Go.Proofs.Ytgocnchjpecafaa.PEv
namespace Go.Proofs.Ytgocnchjpecafaa.PEv
open Go.RowKit Go.Proofs.YtgocnchjpecafaaW.PrintWords Go.Proofs.YtgocnchjpecafaaW.PrintLast Go.Proofs.Ytgocnchjpecafaa.ClockBase Go.Proofs.Ytgocnchjpecafaa.Wr
set_option linter.unusedVariables false
set_option linter.unusedSimpArgs false
end Go.Proofs.Ytgocnchjpecafaa.PEv
namespace Go.Proofs.Ytgocnchjpecafaa.PEv
open Go.RowKit Go.Proofs.YtgocnchjpecafaaW.PrintWords Go.Proofs.YtgocnchjpecafaaW.PrintLast Go.Proofs.Ytgocnchjpecafaa.ClockBase Go.Proofs.Ytgocnchjpecafaa.Wr
set_option linter.unusedVariables false
set_option linter.unusedSimpArgs false
theorem evSame_loop (a b:Int) (past:List Int) (es:List S48) (hn:es.length≤140737488355328) (d:Nat):∀ (i:Nat),i+d=es.length→Ev (fun k=>r05_Same.l0 k (i:Int) a b past es a b past es) true:=by
 induction d with
 | zero =>
  intro i hi
  refine Ev.step (f:=fun _=>some true) (fun k=>?_) (Ev.now _)
  simp only [r05_Same.l0]
  rw [if_neg (by omega)]
 | succ d ih =>
  intro i hi
  refine Ev.step (f:=fun k=>r05_Same.l0 k ((i+1:Nat):Int) a b past es a b past es) (fun k=>?_) (ih (i+1) (by omega))
  simp only [r05_Same.l0]
  rw [if_pos (by omega),if_pos (by omega),if_pos (by omega),if_neg (by simp),ck_w (by omega)]
theorem evSame_ev (a b:Int) (past:List Int) (es:List S48) (hp:past.length≤140737488355328) (hn:es.length≤140737488355328):Ev (fun k=>r05_Same.f k a b past es a b past es) true:=by
 unfold r05_Same.f
 refine ck_else (by simp) ?_
 refine Ev.bind (same_yes past hp) ?_
 refine ck_if rfl ?_
 have e:((es.length:Int) != (es.length:Int))=false:=by simp
 rw [e]
 exact Ev.step (f:=fun k=>r05_Same.l0 k 0 a b past es a b past es) (fun k=>rfl) (evSame_loop a b past es hn es.length 0 (by omega))
end Go.Proofs.Ytgocnchjpecafaa.PEv
namespace Go.Proofs.Ytgocnchjpecafaa.PEv
open Go.RowKit Go.Proofs.YtgocnchjpecafaaW.PrintWords Go.Proofs.YtgocnchjpecafaaW.PrintLast Go.Proofs.Ytgocnchjpecafaa.ClockBase Go.Proofs.Ytgocnchjpecafaa.Wr
set_option linter.unusedVariables false
set_option linter.unusedSimpArgs false
def OkE (x:S30):Prop:=OkEv x.f0.f0 x.f0.f1 x.f1 x.f2
instance (x:S30):Decidable (OkE x):=by unfold OkE;infer_instance
def OkL (c:List Int) (es:List S30):Prop:=okC c=true∧(trim (ofL c)).length=c.length∧es.length≤16∧∀ x ∈ es,OkE x
instance (c:List Int) (es:List S30):Decidable (OkL c es):=by unfold OkL;infer_instance
end Go.Proofs.Ytgocnchjpecafaa.PEv
namespace Go.Proofs.Ytgocnchjpecafaa.PEv
open Go.RowKit Go.Proofs.YtgocnchjpecafaaW.PrintWords Go.Proofs.YtgocnchjpecafaaW.PrintLast Go.Proofs.Ytgocnchjpecafaa.ClockBase Go.Proofs.Ytgocnchjpecafaa.Wr
set_option linter.unusedVariables false
set_option linter.unusedSimpArgs false
theorem awake28_ev:Ev (fun k=>w28_awake.f k) true:=by
 have h:∃ k,w28_awake.f k=some true:=⟨40,by decide +kernel⟩
 obtain ⟨n,hn⟩:=h
 refine ⟨n,fun k hk=>?_⟩
 induction hk with
 | refl=>exact hn
 | step _ ih=>exact w28_awake.mono _ _ ih
theorem rd30_at {l:List S30} {i:Nat} (h:i<l.length):rd_T30 l (i:Int)=l[i]:=by
 unfold rd_T30
 rw [Int.toNat_natCast,List.getD_eq_getElem?_getD,List.getElem?_eq_getElem h]
 rfl
def allOk (l:List S30):Bool:=l.all fun x=>decide (OkE x)
theorem allOk_iff {l:List S30}:allOk l=true↔∀ x ∈ l,OkE x:=by
 unfold allOk
 rw [List.all_eq_true]
 exact ⟨fun h x hx=>of_decide_eq_true (h x hx),fun h x hx=>decide_eq_true (h x hx)⟩
theorem allOk_cons (x:S30) (l:List S30):allOk (x :: l)=(decide (OkE x) && allOk l):=by unfold allOk;rw [List.all_cons]
theorem refMay28_loop (c:List Int) (s:Bool) (es:List S30) (hc:c.length≤140737488355328) (hn:es.length≤140737488355328) (hp:∀ x ∈ es,x.f1.length≤140737488355328∧x.f2.length≤140737488355328) (d:Nat):∀ (i:Nat),i+d=es.length→Ev (fun k=>r28_May.l0 k (i:Int) c s es) (allOk (es.drop i) && decide (okC c=true∧(trim (ofL c)).length=c.length∧es.length≤16)):=by
 induction d with
 | zero =>
  intro i hi
  rw [List.drop_eq_nil_of_le (by omega)]
  refine Ev.step (f:=fun k=>(r03_May.f k c).bind fun t578=>(if t578=true then((r03_Plain.f k c).bind fun t579=>((r03_Same.f k t579 c).bind fun t582=>(if t582=true then(some (decide ((es.length:Int)≤16))) else(some false)))) else(some false))) (fun k=>?_) ?_
  ·simp only [r28_May.l0]
   rw [if_neg (by omega)]
  ·rw [show allOk []=true from rfl,Bool.true_and]
   refine Ev.bind (may_ev c hc) ?_
   by_cases h1:okC c=true
   rotate_left
   ·rw [decide_eq_false (fun h:okC c=true∧(trim (ofL c)).length=c.length∧es.length≤16=>h1 h.1)]
    exact ck_else h1 (Ev.now _)
   refine ck_if h1 ?_
   refine Ev.bind (plain_ev c hc) ?_
   refine Ev.bind (same_ev _ c (trim_five (good_of c))) ?_
   by_cases h2:(trim (ofL c)).length=c.length
   rotate_left
   ·rw [decide_eq_false (fun h:okC c=true∧(trim (ofL c)).length=c.length∧es.length≤16=>h2 h.2.1)]
    exact ck_else (fun h=>h2 (congrArg List.length (of_decide_eq_true h))) (Ev.now _)
   refine ck_if (decide_eq_true (plain_self h1 h2)) ?_
   refine ev_is ?_
   rw [Option.some.injEq,decide_eq_decide]
   exact ⟨fun h=>⟨h1,h2,by omega⟩,fun h=>by have:=h.2.2;omega⟩
 | succ d ih =>
  intro i hi
  have hlt:i<es.length:=by omega
  have hx:=hp _ (List.getElem_mem hlt)
  rw [List.drop_eq_getElem_cons hlt]
  have er:rd_T30 es (i:Int)=es[i]:=rd30_at hlt
  refine Ev.step (f:=fun k=>(r05_May.f k (es[i]).f0.f0 (es[i]).f0.f1 (es[i]).f1 (es[i]).f2).bind fun t=>(if t=true then(r28_May.l0 k ((i+1:Nat):Int) c s es) else(some false))) (fun k=>?_) ?_
  ·simp only [r28_May.l0]
   rw [if_pos (by omega),if_pos (by omega),er,ck_w (by omega)]
  ·refine Ev.bind (refMay_ev _ _ _ _ hx.1 hx.2) ?_
   rw [allOk_cons]
   by_cases h:OkE es[i]
   ·refine ck_if (decide_eq_true h) ?_
    rw [decide_eq_true h,Bool.true_and]
    exact ih (i+1) (by omega)
   ·refine ck_else (fun hh=>h (of_decide_eq_true hh)) ?_
    rw [decide_eq_false h,Bool.false_and,Bool.false_and]
    exact Ev.now _
theorem refMay28_ev (c:List Int) (s:Bool) (es:List S30) (hc:c.length≤140737488355328) (hn:es.length≤140737488355328) (hp:∀ x ∈ es,x.f1.length≤140737488355328∧x.f2.length≤140737488355328):Ev (fun k=>r28_May.f k c s es) (decide (OkL c es)):=by
 have:=refMay28_loop c s es hc hn hp es.length 0 (by omega)
 rw [List.drop_zero] at this
 have e:(allOk es && decide (okC c=true∧(trim (ofL c)).length=c.length∧es.length≤16))=decide (OkL c es):=by
  rw [Bool.eq_iff_iff,Bool.and_eq_true,allOk_iff,decide_eq_true_iff,decide_eq_true_iff]
  exact ⟨fun h=>⟨h.2.1,h.2.2.1,h.2.2.2,h.1⟩,fun h=>⟨h.2.2.2,h.1,h.2.1,h.2.2.1⟩⟩
 rw [e] at this
 exact this
theorem OkE_len {x:S30} (h:OkE x):x.f1.length≤140737488355328∧x.f2.length≤140737488355328:=by
 have h1:=(okC_iff.mp h.2.2.2.2.1).1
 have h2:=h.2.2.2.2.2.2.2.2.1
 omega
end Go.Proofs.Ytgocnchjpecafaa.PEv
