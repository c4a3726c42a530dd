import Derived.Test.YtfhamdobagjakaaWireRec
import Derived.Test.YtfhamdobagjakaaPJox6
import Derived.OpenShut
/- a part -/
namespace Go.Proofs.Ytfhamdobagjakaa.PJo
open Go.RowKit Go.Proofs.YtfhamdobagjakaaW.PrintWords Go.Proofs.YtfhamdobagjakaaW.PrintLast Go.Proofs.Ytfhamdobagjakaa.Wr
set_option linter.unusedVariables false
set_option linter.unusedSimpArgs false
theorem cons_dec {α:Type} [DecidableEq α] (x y:α) (xs ys:List α):decide (x :: xs=y :: ys)=(decide (x=y) && decide (xs=ys)):=by
 rw [Bool.eq_iff_iff]
 simp
theorem eq_loop (a b:List Int) (hab:a.length=b.length) (hn:a.length<=140737488355328) (d:Nat):∀ (i:Nat),i+d=a.length->Ev (λk=>r02_Bytes.l0 k a b (i:Int)) (decide (a.drop i=b.drop i)):=by
 induction d with
 | zero =>
  intro i hi
  have e1:a.drop i=[]:=List.drop_eq_nil_of_le (by omega)
  have e2:b.drop i=[]:=List.drop_eq_nil_of_le (by omega)
  rw [e1,e2]
  refine Ev.step (f:=λ_=>some true) (λk=>?_) (Ev.now _)
  simp only [r02_Bytes.l0]
  rw [if_neg (by omega)]
 | succ d ih =>
  intro i hi
  have ha:i<a.length:=by omega
  have hb:i<b.length:=by omega
  have hw:wrap64 ((i:Int)+1)=((i+1:Nat):Int):=by unfold wrap64;omega
  have e:decide (a.drop i=b.drop i)=(decide (a[i]=b[i]) && decide (a.drop (i+1)=b.drop (i+1))):=by
   rw [List.drop_eq_getElem_cons ha,List.drop_eq_getElem_cons hb]
   exact cons_dec _ _ _ _
  rw [e]
  by_cases h:a[i]=b[i]
  ·rw [decide_eq_true h,Bool.true_and]
   refine Ev.step (f:=λk=>r02_Bytes.l0 k a b ((i+1:Nat):Int)) (λk=>?_) (ih (i+1) (by omega))
   simp only [r02_Bytes.l0]
   rw [if_pos (by omega),if_pos (by omega),if_pos (by omega),wl_rd ha,wl_rd hb,if_pos h,hw]
  ·rw [decide_eq_false h,Bool.false_and]
   refine Ev.step (f:=λ_=>some false) (λk=>?_) (Ev.now _)
   simp only [r02_Bytes.l0]
   rw [if_pos (by omega),if_pos (by omega),if_pos (by omega),wl_rd ha,wl_rd hb,if_neg h]
theorem eq_ev (a b:List Int) (hn:a.length<=140737488355328):Ev (λk=>r02_Bytes.f k a b) (decide (a=b)):=by
 unfold r02_Bytes.f
 by_cases h:a.length=b.length
 ·have h':(a.length:Int)=(b.length:Int):=by omega
  exact wl_if h' (eq_loop a b h hn a.length 0 (by omega))
 ·have h':¬ ((a.length:Int)=(b.length:Int)):=by omega
  have e:decide (a=b)=false:=decide_eq_false (λe=>h (by rw [e]))
  rw [e]
  exact wl_else h' (Ev.now _)
theorem refNum_loop (u:Nat):∀ (out:List Int),u<18446744073709551616->(be u).length+out.length<=8->Ev (λk=>r02_Num.l0 k (u:Int) out) ((((be u++out).length:Nat):Int) :: (be u++out)):=by
 induction u using Nat.strongRecOn with
 | _ u ih =>
  intro out hu hl
  rcases Nat.eq_zero_or_pos u with h0|h0
  ·subst h0
   rw [be_zero] at hl ⊢
   simp only [List.length_nil,Nat.zero_add] at hl
   refine Ev.step (f:=λ_=>some (((out.length:Nat):Int) :: out)) (λk=>?_) (Ev.now _)
   simp only [r02_Num.l0]
   rw [if_neg (by omega)]
   simp only [Option.bind_some]
   have e:((out.length:Nat):Int) % 256=((out.length:Nat):Int):=by omega
   rw [e,if_pos (by rw [List.length_singleton];omega)]
   rfl
  ·have e1:Int.tmod (u:Int) 256 % 256=((u % 256:Nat):Int):=by
    rw [show Int.tmod (u:Int) 256=((u % 256:Nat):Int) from rfl]
    omega
   have e2:IntKind.u64.wrap (Int.tdiv (u:Int) 256)=((u / 256:Nat):Int):=by
    rw [show Int.tdiv (u:Int) 256=((u / 256:Nat):Int) from rfl]
    exact wl_u64 (by omega) (by omega)
   have hb:=be_pos h0
   rw [hb] at hl ⊢
   rw [List.length_append,List.length_singleton] at hl
   refine Ev.step (f:=λk=>r02_Num.l0 k ((u / 256:Nat):Int) (((u % 256:Nat):Int) :: out)) (λk=>?_) ?_
   ·simp only [r02_Num.l0]
    rw [if_pos (by omega)]
    simp only [Option.bind_some]
    rw [e1,e2,if_pos (by rw [List.length_singleton];omega)]
    rfl
   ·have:=ih (u / 256) (by omega) (((u % 256:Nat):Int) :: out) (by omega) (by rw [List.length_cons];omega)
    rw [List.append_assoc]
    exact this
theorem refNum_ev (u:Nat) (hu:u<18446744073709551616):Ev (λk=>r02_Num.f k (u:Int)) (num u):=by
 have:=refNum_loop u [] hu (by have:=be_len8 hu;simpa using this)
 rw [List.append_nil] at this
 exact this
theorem refText_ev (t:List Int) (ht:t.length<140737488350000):Ev (λk=>r02_Text.f k t) (text t):=by
 unfold r02_Text.f
 rw [wl_u64 (by omega) (by omega)]
 refine Ev.bind (refNum_ev t.length (by omega)) ?_
 have h:=num_length t.length
 have h8:=be_len8 (u:=t.length) (by omega)
 refine wl_if (by omega) ?_
 exact Ev.now _
theorem bytes_of {l:List Int} (h:∀ x ∈ l,(Lit.int .u8 x).wf=true):Wr.Bytes l:=λx hx=>by
 have:=bounds_u8 (h x hx)
 omega
end Go.Proofs.Ytfhamdobagjakaa.PJo
