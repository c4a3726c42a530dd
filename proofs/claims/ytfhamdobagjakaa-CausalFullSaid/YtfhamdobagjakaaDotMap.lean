/- a part -/
import Derived.Test.YtfhamdobagjakaaProg
import Derived.Test.YtfhamdobagjakaaHand
import Derived.Test.YtfhamdobagjakaaWEqStruct
import Derived.WideKeyRuns
import Derived.WideMake
import Derived.Maps.Own
namespace Go.Proofs.Ytfhamdobagjakaa.DotMap
open Go Go.RowKit Go.Proofs.YtfhamdobagjakaaW.PrintWords Go.Maps Go.ChangeMaps
set_option linter.unusedVariables false
set_option linter.unusedSimpArgs false
def dotV (x:Int×Int):Value:=.agg #[.int .i64 x.1,.int .i64 x.2]
theorem equal_dot (w:World) (x y:Int×Int):(Op.equal 54 (dotV x) (dotV y)).run Try.prog w = .ok (x == y) w:=by
 have h:=eqA_of (P:=Try.prog) (d:=9999) (t:=54) (w:=w) (xs:=#[.int .i64 x.1,.int .i64 x.2]) (ys:=#[.int .i64 y.1,.int .i64 y.2]) (r:=(x.1 == y.1 && (x.2 == y.2 && true))) Try.underlying54 (by kernel_rfl)
  (eqf_cons (a:=.int .i64 x.1) (b:=.int .i64 y.1) (by rfl) (by kernel_rfl) (by kernel_rfl) (run_equalIn_int w _ _ .i64 .i64 _ _ Try.underlying3)
   (eqf_cons (a:=.int .i64 x.2) (b:=.int .i64 y.2) (by rfl) (by kernel_rfl) (by kernel_rfl) (run_equalIn_int w _ _ .i64 .i64 _ _ Try.underlying3) eqf_nil))
 rw [Bool.and_true] at h
 exact h
structure Ent where
 k:Int×Int
 v:Value
 b:Nat
def Ent.raw (e:Ent):MapEntry:={ key:=dotV e.k,val:=e.v,born:=e.b }
def find (x:Int×Int):List Ent->Nat->Option (Nat×Value)
 | [],_=>none
 | e :: l,i=>if x=e.k then some (i,e.v) else find x l (i+1)
theorem find_run (w:World) (x:Int×Int):∀ (l:List Ent) (i:Nat),(Instr.findAsking 54 (dotV x) (l.map Ent.raw) i).run Try.prog w = .ok (find x l i) w
 | [],i=>by simp [Instr.findAsking,find]
 | e :: l,i=>by
  have h:=equal_dot w x e.k
  have ih:=find_run w x l (i+1)
  simp only [List.map_cons,Instr.findAsking,Sem.run_bind,find]
  rw [show(Ent.raw e).key=dotV e.k from rfl,h]
  simp only [Result.andThen_ok]
  by_cases hx:x=e.k
  ·rw [if_pos (by simpa using hx),if_pos hx]
   rfl
  ·rw [if_neg (by simpa using hx),if_neg hx]
   exact ih
theorem findKey_run (w:World) (x:Int×Int) (l:List Ent):(Instr.findKey 54 (dotV x) (l.map Ent.raw)).run Try.prog w = .ok (find x l 0) w:=by
 rw [run_findKey_eq w (by kernel_rfl)]
 exact find_run w x l 0
theorem check_run (w:World) (x:Int×Int) (em:Bool):(Instr.checkKey em 10000 54 (dotV x)).run Try.prog w = .ok () w:=by
 cases em<;>kernel_rfl
def MapIs (w:World) (b:Nat) (l:List Ent) (clock:Nat):Prop:=w.heap[b]? = some (.map (l.map Ent.raw).toArray clock)
def get (x:Int×Int) (l:List Ent) (z:Value):Value:=match find x l 0 with|some (_,v)=>v|none=>z
theorem lookup_ok_run {w:World} {b clock t e:Nat} {l:List Ent} {z:Value} (x:Int×Int) (ht:Try.prog.underlying t=some (.map 54 e)) (h:MapIs w b l clock) (hz:(zeroValue e).run Try.prog w = .ok z w) :
  (Instr.lookup t (.map (some b)) (dotV x) true).run Try.prog w = .ok (.tuple #[get x l z,.bool (find x l 0).isSome]) w:=by
 have hf:=findKey_run w x l
 simp only [Instr.lookup,Sem.run_bind,run_underlying ht,Result.andThen_ok,MapKept.run_getObj_map h,Sem.run_pure,check_run,hf,get]
 cases find x l 0 with
 | none=>simp [hz]
 | some p=>simp
theorem store_new {w:World} {b clock t e:Nat} {l:List Ent} (x:Int×Int) (v:Value) (ht:Try.prog.underlying t=some (.map 54 e)) (h:MapIs w b l clock) (hx:find x l 0=none) :
  ∃ w',(Instr.mapUpdate t (.map (some b)) (dotV x) v).run Try.prog w = .ok () w'/\MapIs w' b (l++[⟨x,v,clock⟩]) (clock+1)/\w.grownBy w' (some b):=by
 have hf:=findKey_run w x l
 rw [hx] at hf
 refine ⟨setBlock w b (.map ((l.map Ent.raw).toArray.push { key:=dotV x,val:=v,born:=clock }) (clock+1)),?_,?_,⟨rfl,rfl,rfl,by simp [setBlock],λi _ hi=>heap_setBlock_other h _ (λe=>hi (by rw [e]))⟩⟩
 ·simp only [Instr.mapUpdate,Sem.run_bind,run_underlying ht,Result.andThen_ok,MapKept.run_getObj_map h,check_run,hf]
  simp [MapKept.run_setObj_map _ h,setBlock]
 ·unfold MapIs
  rw [heap_setBlock_same h]
  simp [Ent.raw]
section
variable {P : Program} {ops : Array Oper} {rest : List Oper} {o : Oper} {a : Act} {Q : Exit -> Act -> World -> Prop} {W : World}
theorem wpList_store_new {b clock t e:Nat} {l:List Ent} (x:Int×Int) (v:Value) (hgd:o.guard=none) (hd:o.dst=none) (m kk vv:Operand) (ho:o.op = .mapUpdate t m kk vv) (hm:a.eval m = .map (some b)) (hk:a.eval kk=dotV x) (hv:a.eval vv=v)
  (ht:Try.prog.underlying t=some (.map 54 e)) (h:MapIs W b l clock) (hx:find x l 0=none)
  (K:∀ w1,MapIs w1 b (l++[⟨x,v,clock⟩]) (clock+1)->W.grownBy w1 (some b)->wpList Try.prog ops Q rest a w1):wpList Try.prog ops Q (o :: rest) a W:=by
 obtain ⟨w1,hr,h1,hg⟩:=store_new x v ht h hx
 refine wpList_plain hgd λK' hK=>?_
 unfold Oper.wp execOp
 simp only [ho,hm,hk,hv,Sem.run_bind,hr,Result.andThen_ok,Sem.run_pure,Oper.upon_skip,hd]
 exact hK _ _ (K w1 h1 hg)
end
end Go.Proofs.Ytfhamdobagjakaa.DotMap
