/- a part -/
import Derived.Test.YtfhamdobagjakaaAppN
namespace Go.Proofs.Ytfhamdobagjakaa.Hand
open Go.RowKit Go.Proofs.YtfhamdobagjakaaW.PrintWords Go.Proofs.YtfhamdobagjakaaW.PrintLast Go.Proofs.YtfhamdobagjakaaW.PrintMore Go.Proofs.Ytfhamdobagjakaa.Cards
set_option linter.unusedVariables false
set_option linter.unusedSimpArgs false
theorem does_app {P:Program} {ρ:Operand->Value} {op:Oper} {w w1:World} {Q:Value->World->Prop} {s x:Operand} {t:TypeId} {v y v1:Value} (ho:op.op = .call { callee:=.builtin .append,args:=#[s,x],argTypes:=#[t,t] }) (hs:ρ s=v) (hx:ρ x=y)
  (hr:(Builtin.append_ #[t,t] op.type #[v,y]).run P w = .ok v1 w1) (h:Q v1 w1):does P ρ op w Q:=by
 refine does_val (v:=v1) (w1:=w1) ?_ h
 unfold execOp
 simp only [ho,resolve,invoke,builtin,Sem.run_bind,Sem.run_pure,Result.andThen_ok,List.map_toArray,List.map_cons,List.map_nil,hs,hx,hr]
theorem app_event {P:Program} {ops rest:_} {op:Oper} {a:Act} {Q:Exit->Act->World->Prop} {w w1:World} {s x:Operand} {t:TypeId} {v y v1:Value} {N:Option Tmp} (hgd:op.guard=none) (ho:op.op = .call { callee:=.builtin .append,args:=#[s,x],argTypes:=#[t,t] }) (hN:op.dst=N) (hs:a.eval s=v) (hx:a.eval x=y)
  (hr:(Builtin.append_ #[t,t] op.type #[v,y]).run P w = .ok v1 w1) (h:wpList P ops Q rest (a.put N v1) w1):wpList P ops Q (op :: rest) a w:=by
 refine wpList_plain hgd λK hK=>wp_of_does (does_app ho hs hx hr ?_)
 rw [hN]
 exact hK _ _ h
end Go.Proofs.Ytfhamdobagjakaa.Hand
