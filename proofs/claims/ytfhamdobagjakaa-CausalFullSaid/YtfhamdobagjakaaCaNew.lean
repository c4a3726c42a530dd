/- a part -/
import Derived.Test.YtfhamdobagjakaaCaGiveTold
namespace Go.Proofs.Ytfhamdobagjakaa.Cau
open Go.RowKit Go.Proofs.YtfhamdobagjakaaW.PrintWords Go.Proofs.YtfhamdobagjakaaW.PrintLast Go.Proofs.YtfhamdobagjakaaW.PrintMore Go.Proofs.Ytfhamdobagjakaa.Hand Go.Proofs.Ytfhamdobagjakaa.Cards Go.Proofs.Ytfhamdobagjakaa.PCa Go.Proofs.Ytfhamdobagjakaa.DotMap
set_option linter.unusedVariables false
set_option linter.unusedSimpArgs false
section
variable {w0 W w W1 W2 : World} {g bm clk base k : Nat} {X : Nat -> Prop} {c p : List Int} {es : List En} {l : List Ev} {ok ok' : Nat -> Prop} {x : Ev} {v : Value} {A Ap Ae Ac Ac1 : Option Addr} {cl cp ce cc cc1 : Nat}
set_option maxHeartbeats 8000000 in
set_option maxRecDepth 100000 in
theorem new_calls (hr:Kd.C KI W A c.length c) (hc:c.length<=cl) (hck:clock_Check.f c=some 0) (hpl:clock_Plain.f c=some p):Calls Try.prog 21 #[.slice A c.length cl] W λe w'=>∃ g bm Ac cc clk,e = .returned (.tuple #[.pointer (some ⟨g,0,none⟩),.int .i64 0])/\Bf W w' g bm (λk=>k<W.heap.size\/k=g\/k=bm) Ac cc p [] clk:=by
 have hmm:=@run_makeMap_plain Try.prog
 have HR:=Aside0.mk hr
 have HC:=Aside0.mk hc
 have HK:=Aside0.mk hck
 have HP:=Aside0.mk hpl
 clear hr hc hck hpl
 go_enter Try.func21,Try.ntmps21
 go_wp2_with (first|(go_at_call 52;(with_reducible refine Calls.mono (clock_Check.calls A cl c 0 W HR.out HC.out HK.out) ?_);rintro e_ w1 ⟨rfl,hb⟩;have HB:=Aside0.mk hb.below;clear hb)|(go_at_call 53;(with_reducible refine Calls.mono (clock_Plain.calls A cl c p w1 (Kd.C_below HR.out HB.out) HC.out HP.out) ?_);rintro e_ w2 ⟨v0,rfl,hR,hb⟩;obtain ⟨A2,c2,e2⟩:=Kd.R_slice hR;subst e2;have RR:=Aside0.mk hR;have HB2:=Aside0.mk hb;clear hb hR))
 go_ret2
 have B2:=below_step HB.out HB2.out
 have s2:=B2.size
 have B4:=below_alloc (below_alloc B2 (.map #[] 0)) (.cells #[.slice A2 p.length c2,.map (some w2.heap.size)] 90)
 have b4:Below w2.heap.size w2 ((w2.alloc (.map #[] 0)).alloc (.cells #[.slice A2 p.length c2,.map (some w2.heap.size)] 90)):=below_alloc (below_alloc (Below.refl _ _) _) _
 have f2:=F_new (Kd.R_lower RR.out HB.out.size) (X:=λk=>k<W.heap.size) (λk hk=>hk)
 have xg:((w2.alloc (.map #[] 0)).alloc (.cells #[.slice A2 p.length c2,.map (some w2.heap.size)] 90)).heap[w2.heap.size+1]? = some (BfObj A2 c2 p w2.heap.size):=by
  have h_:=heap_alloc_new (w2.alloc (.map #[] 0)) (.cells #[.slice A2 p.length c2,.map (some w2.heap.size)] 90)
  rwa [show(w2.alloc (.map #[] 0)).heap.size=w2.heap.size+1 by simp] at h_
 refine ⟨w2.heap.size+1,w2.heap.size,A2,c2,0,rfl,B4,by omega,s2,by omega,.inr (.inl rfl),.inr (.inr rfl),xg,f2.2.1,?_,?_,λe he=>(by cases he),λe he=>(by cases he),List.nodup_nil,List.nodup_nil⟩
 ·refine Kd.F_mono (Kd.F_step (Kd.F_bound f2.2.2) (W1:=(w2.alloc (.map #[] 0)).alloc (.cells #[.slice A2 p.length c2,.map (some w2.heap.size)] 90)) (λk hk hlt=>b4.block k hlt)) (λk hk e=>?_)
  rcases e with e|e|e
  ·exact hk.1 e
  ·have:=hk.2
   omega
  ·have:=hk.2
   omega
 ·unfold MapIs
  exact blk_below (heap_alloc_new w2 (.map #[] 0)) (below_alloc (Below.refl _ _) _)
end
end Go.Proofs.Ytfhamdobagjakaa.Cau
