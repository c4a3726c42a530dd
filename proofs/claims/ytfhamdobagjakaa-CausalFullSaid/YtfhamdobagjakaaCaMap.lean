/- a part -/
import Derived.Test.YtfhamdobagjakaaDotMap
import Derived.Maps.RangeRun
namespace Go.Proofs.Ytfhamdobagjakaa.DotMap
open Go Go.RowKit Go.Proofs.YtfhamdobagjakaaW.PrintWords Go.Maps Go.ChangeMaps
set_option linter.unusedVariables false
set_option linter.unusedSimpArgs false
def del (x:Int×Int):List Ent->List Ent
 | []=>[]
 | e :: l=>if x=e.k then l else e :: del x l
theorem del_find (x:Int×Int):∀ (l:List Ent) (i:Nat),(match find x l i with|some (j,_)=>i<=j/\del x l=l.eraseIdx (j - i)|none=>del x l=l)
 | [],i=>rfl
 | e :: l,i=>by
  have ih:=del_find x l (i+1)
  unfold find del
  by_cases h:x=e.k
  ·rw [if_pos h,if_pos h]
   simp
  ·rw [if_neg h,if_neg h]
   cases hf:find x l (i+1) with
   | none =>
    rw [hf] at ih
    simp only at ih ⊢
    rw [ih]
   | some p =>
    obtain ⟨j,v⟩:=p
    rw [hf] at ih
    simp only at ih ⊢
    refine ⟨by omega,?_⟩
    rw [ih.2,show j - i=(j - (i+1))+1 by omega,List.eraseIdx_cons_succ]
theorem eraseIdx_map' {α β:Type} (f:α->β):∀ (l:List α) (j:Nat),(l.eraseIdx j).map f=(l.map f).eraseIdx j
 | [],_=>rfl
 | _ :: _,0=>rfl
 | a :: l,j+1=>by simp only [List.eraseIdx_cons_succ,List.map_cons,eraseIdx_map' f l j]
theorem del_run {w:World} {b clock t e ty kt:Nat} {l:List Ent} (x:Int×Int) (ht:Try.prog.underlying t=some (.map 54 e)) (h:MapIs w b l clock) :
  ∃ w',(Builtin.delete_ #[t,kt] ty #[.map (some b),dotV x]).run Try.prog w = .ok (.tuple #[]) w'/\MapIs w' b (del x l) clock/\w.grownBy w' (some b):=by
 have hf:=findKey_run w x l
 have hd:=del_find x l 0
 have key:∀ es':Array MapEntry,∃ w',w'=setBlock w b (.map es' clock):=λ_=>⟨_,rfl⟩
 refine ⟨setBlock w b (.map ((del x l).map Ent.raw).toArray clock),?_,?_,⟨rfl,rfl,rfl,by simp [setBlock],λi _ hi=>heap_setBlock_other h _ (λe=>hi (by rw [e]))⟩⟩
 ·simp only [Builtin.delete_,Sem.run_bind,Sem.run_pure,List.getElem?_toArray,List.getElem?_cons_zero,List.getElem?_cons_succ,run_underlying ht,Result.andThen_ok,MapKept.run_getObj_map h,check_run,hf]
  cases hfx:find x l 0 with
  | none =>
   rw [hfx] at hd
   simp only at hd
   rw [hd]
   simp [MapKept.run_setObj_map _ h,setBlock]
  | some p =>
   obtain ⟨j,v⟩:=p
   rw [hfx] at hd
   simp only [Nat.sub_zero] at hd
   rw [hd.2]
   have er:(l.map Ent.raw).toArray.eraseIdxIfInBounds j=((l.eraseIdx j).map Ent.raw).toArray:=by
    rw [eraseIdx_map']
    apply Array.ext'
    simp only [Array.eraseIdxIfInBounds]
    split
    ·simp
    ·rename_i hj
     rw [List.eraseIdx_of_length_le (by simpa using hj)]
   simp only [er]
   simp [MapKept.run_setObj_map _ h,setBlock]
 ·unfold MapIs
  rw [heap_setBlock_same h]
section
variable {P : Program} {ops : Array Oper} {rest : List Oper} {o : Oper} {a : Act} {Q : Exit -> Act -> World -> Prop} {W : World}
theorem wpList_del {b clock t e kt:Nat} {l:List Ent} (x:Int×Int) (hgd:o.guard=none) (hd:o.dst=none) (m kk:Operand) (ho:o.op = .call { callee:=.builtin .delete,args:=#[m,kk],argTypes:=#[t,kt] }) (hm:a.eval m = .map (some b)) (hk:a.eval kk=dotV x)
  (ht:Try.prog.underlying t=some (.map 54 e)) (h:MapIs W b l clock)
  (K:∀ w1,MapIs w1 b (del x l) clock->W.grownBy w1 (some b)->wpList Try.prog ops Q rest a w1):wpList Try.prog ops Q (o :: rest) a W:=by
 obtain ⟨w1,hr,h1,hg⟩:=del_run (ty:=o.type) (kt:=kt) x ht h
 refine wpList_plain hgd λK' hK=>?_
 unfold Oper.wp execOp
 simp only [ho,resolve,invoke,builtin,Sem.run_bind,Sem.run_pure,Result.andThen_ok,List.map_toArray,List.map_cons,List.map_nil,hm,hk,hr,Oper.upon,hd]
 exact hK _ _ (K w1 h1 hg)
end
theorem len_run {w:World} {b clock t e ty:Nat} {l:List Ent} (ht:Try.prog.underlying t=some (.map 54 e)) (h:MapIs w b l clock) :
  (Builtin.len_ #[t] ty #[.map (some b)]).run Try.prog w = .ok (.int .i64 (l.length:Int)) w:=by
 simp [Builtin.len_,run_underlying ht,MapKept.run_getObj_map h,goInt]
end Go.Proofs.Ytfhamdobagjakaa.DotMap
