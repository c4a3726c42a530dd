/- a part -/
import Derived.Test.YtgocnchjpecafaaPEvx19
import Derived.Test.YtgocnchjpecafaaEvMore
import Derived.Test.YtgocnchjpecafaaPEvx21
namespace Go.Proofs.Ytgocnchjpecafaa.PEv
open Go.RowKit Go.Proofs.YtgocnchjpecafaaW.PrintWords Go.Proofs.YtgocnchjpecafaaW.PrintLast Go.Proofs.Ytgocnchjpecafaa.ClockBase Go.Proofs.Ytgocnchjpecafaa.Wr
set_option linter.unusedVariables false
set_option linter.unusedSimpArgs false
theorem light1_ev (l:List S30) (i:Nat) (hi:i<l.length) (hn:((rd_T30 l (i:Int)).f2).length<=140737488355328) (next:∃ b,Ev (λk=>w05_Light.l0 k l (wrap64 ((i:Int)+1))) b) (d:Nat):∀ (j:Nat),j+d=((rd_T30 l (i:Int)).f2).length->∃ b,Ev (λk=>w05_Light.l1 k l (i:Int) (j:Int)) b:=by
 induction d with
 | zero =>
  intro j hj
  obtain ⟨b,hb⟩:=next
  refine ⟨b,Ev.step (f:=λk=>w05_Light.l0 k l (wrap64 ((i:Int)+1))) (λk=>?_) hb⟩
  simp only [w05_Light.l1]
  rw [if_pos (by omega),if_pos (by omega),if_neg (by omega)]
 | succ d ih =>
  intro j hj
  obtain ⟨b,hb⟩:=ih (j+1) (by omega)
  by_cases h1:(((rd_T48 ((rd_T30 l (i:Int)).f2) (j:Int)).f2).size:Int) > 100
  ·refine ⟨false,Ev.step (f:=λ_=>some false) (λk=>?_) (Ev.now _)⟩
   simp only [w05_Light.l1]
   rw [if_pos (by omega),if_pos (by omega),if_pos (by omega),if_pos (by omega),if_pos h1]
  by_cases h2:(((rd_T48 ((rd_T30 l (i:Int)).f2) (j:Int)).f5).size:Int) > 100
  ·refine ⟨false,Ev.step (f:=λ_=>some false) (λk=>?_) (Ev.now _)⟩
   simp only [w05_Light.l1]
   rw [if_pos (by omega),if_pos (by omega),if_pos (by omega),if_pos (by omega),if_neg h1,if_pos h2]
  ·refine ⟨b,Ev.step (f:=λk=>w05_Light.l1 k l (i:Int) ((j+1:Nat):Int)) (λk=>?_) hb⟩
   simp only [w05_Light.l1]
   rw [if_pos (by omega),if_pos (by omega),if_pos (by omega),if_pos (by omega),if_neg h1,if_neg h2,ck_w (by omega)]
theorem light0_ev (l:List S30) (hl:l.length<=140737488355328) (hn:∀ i:Nat,i<l.length->((rd_T30 l (i:Int)).f2).length<=140737488355328) (d:Nat):∀ (i:Nat),i+d=l.length->∃ b,Ev (λk=>w05_Light.l0 k l (i:Int)) b:=by
 induction d with
 | zero =>
  intro i hi
  refine ⟨decide ((l.length:Int)<=40),Ev.step (f:=λk=>w05_Light.j1 k l (i:Int) false) (λk=>?_) (Ev.step (f:=λ_=>some (decide ((l.length:Int)<=40))) (λk=>rfl) (Ev.now _))⟩
  simp only [w05_Light.l0]
  rw [if_neg (by omega)]
 | succ d ih =>
  intro i hi
  have h0:∀ k,w05_Light.l0 (k+1) l (i:Int)=w05_Light.j1 k l (i:Int) (decide ((i:Int)<=40)):=λk=>by
   simp only [w05_Light.l0]
   rw [if_pos (by omega)]
  by_cases h40:(i:Int)<=40
  rotate_left
  ·refine ⟨decide ((l.length:Int)<=40),Ev.step h0 ?_⟩
   rw [decide_eq_false h40]
   exact Ev.step (f:=λ_=>some (decide ((l.length:Int)<=40))) (λk=>rfl) (Ev.now _)
  have nx:=ih (i+1) (by omega)
  rw [<-ck_w (by omega)] at nx
  obtain ⟨b,hb⟩:=light1_ev l i (by omega) (hn i (by omega)) nx _ 0 (Nat.zero_add _)
  have h2:∀ c:Bool,∃ b,Ev (λk=>w05_Light.j2 k l (i:Int) c) b:=λc=>by
   cases c with
   | true=>exact ⟨false,Ev.step (f:=λ_=>some false) (λk=>rfl) (Ev.now _)⟩
   | false=>exact ⟨b,Ev.step (f:=λk=>w05_Light.l1 k l (i:Int) 0) (λk=>rfl) hb⟩
  have h1:∃ b,Ev (λk=>w05_Light.j1 k l (i:Int) true) b:=by
   by_cases h20:(((rd_T30 l (i:Int)).f1).length:Int) > 20
   ·obtain ⟨b,hb⟩:=h2 true
    refine ⟨b,Ev.step (f:=λk=>w05_Light.j2 k l (i:Int) true) (λk=>?_) hb⟩
    simp only [w05_Light.j1]
    rw [if_pos trivial,if_pos (by omega),if_pos (by omega),if_pos h20]
   ·obtain ⟨b,hb⟩:=h2 (decide ((((rd_T30 l (i:Int)).f2).length:Int) > 30))
    refine ⟨b,Ev.step (f:=λk=>w05_Light.j2 k l (i:Int) (decide ((((rd_T30 l (i:Int)).f2).length:Int) > 30))) (λk=>?_) hb⟩
    simp only [w05_Light.j1]
    rw [if_pos trivial,if_pos (by omega),if_pos (by omega),if_neg h20]
  obtain ⟨b,hb⟩:=h1
  refine ⟨b,Ev.step h0 ?_⟩
  rw [decide_eq_true h40]
  exact hb
theorem light_ev (l:List S30) (hl:l.length<=140737488355328) (hn:∀ i:Nat,i<l.length->((rd_T30 l (i:Int)).f2).length<=140737488355328):∃ b,Ev (λk=>w05_Light.f k l) b:=light0_ev l hl hn l.length 0 (by omega)
end Go.Proofs.Ytgocnchjpecafaa.PEv
namespace Go.Proofs.Ytgocnchjpecafaa.PEv
open Go.RowKit Go.Proofs.YtgocnchjpecafaaW.PrintWords Go.Proofs.YtgocnchjpecafaaW.PrintLast Go.Proofs.Ytgocnchjpecafaa.ClockBase Go.Proofs.Ytgocnchjpecafaa.Wr
set_option linter.unusedVariables false
set_option linter.unusedSimpArgs false
end Go.Proofs.Ytgocnchjpecafaa.PEv
