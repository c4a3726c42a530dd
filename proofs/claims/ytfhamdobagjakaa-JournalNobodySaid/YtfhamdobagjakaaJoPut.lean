/- a part -/
import Derived.Test.YtfhamdobagjakaaJoRenew
namespace Go.Proofs.Ytfhamdobagjakaa.Dsk
open Go.RowKit Go.Proofs.YtfhamdobagjakaaW.PrintWords Go.Proofs.YtfhamdobagjakaaW.PrintLast Go.Proofs.YtfhamdobagjakaaW.PrintMore Go.Proofs.Ytfhamdobagjakaa.Hand Go.Proofs.Ytfhamdobagjakaa.Cards Go.Proofs.Ytfhamdobagjakaa.PJo
set_option linter.unusedVariables false
set_option linter.unusedSimpArgs false
section
variable {w0 W W1 : World} {g gj : Nat} {D D0 D1 : Nat -> Prop} {d d1 : Dk} {s t : Int}
set_option maxHeartbeats 4000000 in
set_option maxRecDepth 100000 in
theorem turn_calls (h:Jo w0 W g gj D d s t false) (h0:0<=t) (h1:t<=1099511627776):Calls Try.prog 29 #[.pointer (some ⟨gj,0,none⟩)] W λe w'=>e = .returned (.int .i64 t)/\Below W.heap.size W w':=by
 have c2:=h.c2
 have hw:IntKind.i64.wrap t=t:=by rw [IntKind.wrap_i64];omega
 clear h
 go_enter Try.func29,Try.ntmps29
 go_wp2
 go_ret
 exact ⟨rfl,Below.refl _ _⟩
set_option maxHeartbeats 4000000 in
set_option maxRecDepth 100000 in
theorem put_renew (h:Jo w0 W g gj D d s 0 false) {A:Option Addr} {c kp:Nat} {l:List S92} {b:List Int} (hl:l≠[]) (hA:Kd.F k92 W (λk=>¬ JD D gj k) A l.length l) (hc:l.length<=c) (hput:journal_put.f kp l=some (b,0)) {q:Dk×Int} {s' t':Int}
  (hr:∀ W1,Below W.heap.size W W1->Calls Try.prog 28 #[.pointer (some ⟨gj,0,none⟩),.slice A l.length c] W1 λe w'=>e = .returned (.int .i64 q.2)/\∃ D',Jo w0 w' g gj D' q.1 s' t' false/\Step W1 w' (JD D gj) (JD D' gj)) :
  Calls Try.prog 26 #[.pointer (some ⟨gj,0,none⟩),.slice A l.length c] W λe w'=>e = .returned (.int .i64 q.2)/\∃ D',Jo w0 w' g gj D' q.1 s' t' false/\Step W w' (JD D gj) (JD D' gj):=by
 have J:=Aside0.mk h
 have HA:=Aside0.mk hA
 have HP:=Aside0.mk hput
 have HC:=Aside0.mk hc
 have HR:=Aside0.mk hr
 have hl0:((l.length:Int) == 0)=false:=by
  have:=List.length_pos_iff.2 hl
  simp;omega
 clear h hA hput hc hl hr
 go_enter Try.func26,Try.ntmps26
 go_upto_region 6 with (first|(go_at_call 14;(with_reducible refine Calls.mono (broken_on J.out.blk) ?_);rintro e w2 ⟨rfl,hb⟩;have BB:=Aside0.mk hb;have qa_:=Kd.F_below HA.out hb;clear HA hb;have HA:=Aside0.mk qa_;clear qa_)|(go_at_call 62;(with_reducible refine Calls.mono (journal_put.calls kp A c l b 0 w2 (Kd.F_now HA.out) HC.out HP.out) ?_);rintro e w3 ⟨vb,rfl,hR,hb⟩;have q_:=below_step BB.out hb;clear BB hb hR;have BB:=Aside0.mk q_;clear q_))
 have c2:=(J.out.on BB.out).c2
 go_wp2_with (first|(go_at_call 28;(with_reducible refine Calls.mono (HR.out w3 BB.out) ?_);rintro e w4 ⟨rfl,D4,hj,hs⟩;have JJ:=Aside0.mk hj;have SS:=Aside0.mk hs;clear hj hs))
 go_ret
 exact ⟨rfl,D4,JJ.out,(Step.of_below BB.out).trans SS.out⟩
end
end Go.Proofs.Ytfhamdobagjakaa.Dsk
