/- a part -/
import Derived.Test.YtpahdlgpiecdkaaDkRef2
import Derived.Laws.Append
import Derived.Laws.AppendOwn
namespace Go.Proofs.Ytpahdlgpiecdkaa.Dsk
open Go.RowKit Go.Proofs.YtpahdlgpiecdkaaW.PrintWords Go.Proofs.YtpahdlgpiecdkaaW.PrintLast Go.Proofs.YtpahdlgpiecdkaaW.PrintMore Go.Proofs.Ytpahdlgpiecdkaa.Hand Go.Proofs.Ytpahdlgpiecdkaa.Cards Go.Proofs.Ytpahdlgpiecdkaa.PDk
set_option linter.unusedVariables false
set_option linter.unusedSimpArgs false
section
variable {w0 W : World} {D : Nat -> Prop} {d : Dk} {A0 A1 : Option Addr} {c0 c1 : Nat}
theorem fresh_append {k base m c:Nat} {A:Option Addr} {ys:List Int} (hb:base<=k) (hx:W.heap[k]? = some (.cells #[] 5 (0,0))) (hbase:base<=W.heap.size) (hC:U8.C W A m ys) (hm:m<=140737488355328) :
  ∃ v1 w1,(Builtin.append_ #[23,23] 23 #[.slice (some ⟨k,0,none⟩) 0 0,.slice A m c]).run Try.prog W = .ok v1 w1/\U8.R 5 w1 base (λ_=>True) v1 ys/\Below W.heap.size W w1:=by
 have own:W.ownsRow base 5 1 (.slice (some ⟨k,0,none⟩) 0 0) 0 []:=⟨rfl,.inr ⟨k,0,#[],rfl,hb,hx,Nat.le_refl _,Nat.zero_le _,rfl,rfl⟩⟩
 obtain ⟨i0,hi,hzz⟩:=Option.map_eq_some_iff.1 info5
 simp only [Prod.mk.injEq] at hzz
 obtain ⟨hz0,hz1,hz2⟩:=hzz
 have hyl:ys.length=m:=hC.1
 rcases Nat.eq_zero_or_pos m with h0|hp
 ·subst h0
  obtain rfl:ys=[]:=List.eq_nil_of_length_eq_zero hyl
  refine ⟨.slice (some ⟨k,0,none⟩) 0 0,W,?_,Kd.R_of_own own (λ_ _=>trivial),Below.refl _ _⟩
  cases A<;>simp [Builtin.append_,run_underlying Try.underlying23,sizeOf,typeInfo,hi,Builtin.lenOf,Builtin.firstCells,storeCells,loadCells,loadCellsFrom,hz1]
 ·obtain ⟨ad,e,hc⟩:=hC.2.2 hp
  subst e
  have hcells:∀ j u,(nums .u8 ys)[j]? = some u->W.cell? (ad.add j)=some u:=by
   intro j u hu
   simp only [nums,List.getElem?_map,Option.map_eq_some_iff] at hu
   obtain ⟨p,hp1,hp2⟩:=hu
   obtain ⟨cc,hl,hK,hcc⟩:=hc j p hp1
   obtain rfl:=hK
   have:=hcc 0 _ rfl
   rw [show j*U8.sz+0=j by show j*1+0=j;omega] at this
   rw [this,hp2]
  have hlen:(nums .u8 ys).length=m*1:=by simp [nums,hyl]
  obtain ⟨v1,w1,hr,own1,hg,_⟩:=run_append_own (P:=Try.prog) W base 23 23 5 i0 (.int .u8 0) 1 1 Try.underlying23 hi hz0 hz1 hz2 rfl (by decide) _ 0 [] own ad m c (nums .u8 ys) hlen hcells (by intro u hu;simp only [nums,List.mem_map] at hu;obtain ⟨p,_,rfl⟩:=hu;rfl) (by simp only [maxLen];omega) (by omega) hbase
  have hr2:=run_append_grow (P:=Try.prog) W 23 23 5 i0 (.int .u8 0) Try.underlying23 hi hz0 ⟨k,0,none⟩ 0 0 [] (by simp) (by simp) ad m c (nums .u8 ys) (by rw [hz1];exact hlen) hcells (by omega) (by omega) (by rw [hz2];exact growslice_fits (by omega) (by omega))
  rw [hr] at hr2
  injection hr2 with hv hw
  simp only [Nat.zero_add,List.nil_append] at own1
  subst hw
  refine ⟨v1,_,hr,Kd.R_of_own (by rw [hyl];exact own1) (λ_ _=>trivial),below_alloc (below_drew (Below.refl _ _)) _⟩
theorem does_append {ρ:Operand->Value} {o:Oper} {w w1:World} {R:Value->World->Prop} {s x:Operand} {t:TypeId} {v y v1:Value} (ho:o.op = .call { callee:=.builtin .append,args:=#[s,x],argTypes:=#[t,t] }) (hs:ρ s=v) (hx:ρ x=y)
  (hr:(Builtin.append_ #[t,t] o.type #[v,y]).run Try.prog w = .ok v1 w1) (h:R v1 w1):does Try.prog ρ o w R:=by
 refine does_val (v:=v1) (w1:=w1) ?_ h
 unfold execOp
 simp only [ho,resolve,invoke,builtin,Sem.run_bind,Sem.run_pure,Result.andThen_ok,List.map_toArray,List.map_cons,List.map_nil,hs,hx,hr]
theorem refDo_calls (h:RawV W D A0 A1 c0 c1 d) (hD:∀ k,D k->k<W.heap.size) (hg:d.Good) (o:Int) (ho:o=0\/o=1\/o=2) (i:Int) (A:Option Addr) (m c:Nat) (b:List Int) (hm:m=b.length) (hc:m<=c) (hA:Kd.F U8 W (λk=>¬ D k) A m b) :
  Calls Try.prog 24 #[dkV A0 A1 c0 c1 d,.int .i64 o,.int .i64 i,.slice A m c] W λe w'=>∃ v,e = .returned (.tuple #[v,.int .i64 (d.act o i b).2])/\Is w' D v (d.act o i b).1/\Below W.heap.size W w':=by
 have cd:d.dead=true\/d.dead=false:=by cases d.dead<;>simp
 have ci:(i<0\/2<=i)\/i=0\/i=1:=by omega
 rcases ho with rfl|rfl|rfl
 ·rcases cd with hd|hd
  ·exact refDo0_dead h hD hg i A m c b hm hc hA hd
  ·rcases ci with hi|hi|hi
   ·exact refDo0_out h hD hg i A m c b hm hc hA hd hi
   ·by_cases hf:d.left<(b.length:Int)
    ·exact refDo0_0_full h hD hg i A m c b hm hc hA hd hi hf
    ·by_cases hs:d.stop=0
     ·exact refDo0_0_die h hD hg i A m c b hm hc hA hd hi hf hs
     ·by_cases hp:0<d.stop
      ·exact refDo0_0_1 h hD hg i A m c b hm hc hA hd hi hf hs hp
      ·exact refDo0_0_0 h hD hg i A m c b hm hc hA hd hi hf hs hp
   ·by_cases hf:d.left<(b.length:Int)
    ·exact refDo0_1_full h hD hg i A m c b hm hc hA hd hi hf
    ·by_cases hs:d.stop=0
     ·exact refDo0_1_die h hD hg i A m c b hm hc hA hd hi hf hs
     ·by_cases hp:0<d.stop
      ·exact refDo0_1_1 h hD hg i A m c b hm hc hA hd hi hf hs hp
      ·exact refDo0_1_0 h hD hg i A m c b hm hc hA hd hi hf hs hp
 ·rcases cd with hd|hd
  ·exact refDo1_dead h hD hg i A m c b hm hc hA hd
  ·rcases ci with hi|hi|hi
   ·exact refDo1_out h hD hg i A m c b hm hc hA hd hi
   ·by_cases hs:d.stop=0
    ·exact refDo1_0_die h hD hg i A m c b hm hc hA hd hi hs
    ·by_cases hp:0<d.stop
     ·exact refDo1_0_1 h hD hg i A m c b hm hc hA hd hi hs hp
     ·exact refDo1_0_0 h hD hg i A m c b hm hc hA hd hi hs hp
   ·by_cases hs:d.stop=0
    ·exact refDo1_1_die h hD hg i A m c b hm hc hA hd hi hs
    ·by_cases hp:0<d.stop
     ·exact refDo1_1_1 h hD hg i A m c b hm hc hA hd hi hs hp
     ·exact refDo1_1_0 h hD hg i A m c b hm hc hA hd hi hs hp
 ·rcases cd with hd|hd
  ·exact refDo2_dead h hD hg i A m c b hm hc hA hd
  ·rcases ci with hi|hi|hi
   ·exact refDo2_out h hD hg i A m c b hm hc hA hd hi
   ·by_cases hs:d.stop=0
    ·exact refDo2_0_die h hD hg i A m c b hm hc hA hd hi hs
    ·by_cases hp:0<d.stop
     ·exact refDo2_0_1 h hD hg i A m c b hm hc hA hd hi hs hp
     ·exact refDo2_0_0 h hD hg i A m c b hm hc hA hd hi hs hp
   ·by_cases hs:d.stop=0
    ·exact refDo2_1_die h hD hg i A m c b hm hc hA hd hi hs
    ·by_cases hp:0<d.stop
     ·exact refDo2_1_1 h hD hg i A m c b hm hc hA hd hi hs hp
     ·exact refDo2_1_0 h hD hg i A m c b hm hc hA hd hi hs hp
end
end Go.Proofs.Ytpahdlgpiecdkaa.Dsk
