/- a part -/
import Derived.Test.YtfhamdobagjakaaDkWalk2
import Derived.Handy
import Derived.Defers
namespace Go.Proofs.Ytfhamdobagjakaa.Dsk
open Go.RowKit Go.Proofs.YtfhamdobagjakaaW.PrintWords Go.Proofs.YtfhamdobagjakaaW.PrintLast Go.Proofs.YtfhamdobagjakaaW.PrintMore Go.Proofs.Ytfhamdobagjakaa.Hand Go.Proofs.Ytfhamdobagjakaa.Cards Go.Proofs.Ytfhamdobagjakaa.PJo
set_option linter.unusedVariables false
set_option linter.unusedSimpArgs false
section
variable {w0 W : World} {g gj : Nat} {v0 v1 : Value} {D : Nat -> Prop} {d : Dk}
abbrev JoObj (p:Option Addr) (slot turn:Int) (broken:Bool):Obj:=.cells #[.pointer p,.int .i64 slot,.int .u64 turn,.bool broken] 64 (0,0)
def Nobody (W:World) (p:Option Addr):Prop:=p=none\/∃ gj,p=some ⟨gj,0,none⟩/\W.heap[gj]? = some (JoObj none 0 0 false)
theorem Nobody.on {W1:World} {p:Option Addr} (h:Nobody W p) (hb:Below W.heap.size W W1):Nobody W1 p:=by
 rcases h with h|⟨gj,e,h⟩
 ·exact .inl h
 ·exact .inr ⟨gj,e,blk_below h hb⟩
set_option maxHeartbeats 4000000 in
set_option maxRecDepth 100000 in
theorem broken_nobody {p:Option Addr} (h:Nobody W p):Calls Try.prog 14 #[.pointer p] W λe w'=>e = .returned (.bool true)/\Below W.heap.size W w':=by
 rcases h with rfl|⟨gj,rfl,h⟩
 ·go_enter Try.func14,Try.ntmps14
  go_wp2
  go_ret
  exact ⟨rfl,Below.refl _ _⟩
 ·have c0:=(blk_cell h 0).trans (rfl:_=some (Value.pointer none))
  have c3:=(blk_cell h 3).trans (rfl:_=some (Value.bool false))
  clear h
  go_enter Try.func14,Try.ntmps14
  go_wp2
  go_ret
  exact ⟨rfl,Below.refl _ _⟩
set_option maxHeartbeats 4000000 in
set_option maxRecDepth 100000 in
theorem broken_on {slot turn:Int} {b:Bool} {q:Addr} (h:W.heap[gj]? = some (JoObj (some q) slot turn b)):Calls Try.prog 14 #[.pointer (some ⟨gj,0,none⟩)] W λe w'=>e = .returned (.bool b)/\Below W.heap.size W w':=by
 have c0:=(blk_cell h 0).trans (rfl:_=some (Value.pointer (some q)))
 have c3:=(blk_cell h 3).trans (rfl:_=some (Value.bool b))
 clear h
 go_enter Try.func14,Try.ntmps14
 go_wp2
 go_ret
 exact ⟨rfl,Below.refl _ _⟩
set_option maxHeartbeats 4000000 in
set_option maxRecDepth 100000 in
theorem put_nobody {p:Option Addr} (h:Nobody W p) (v:Value):Calls Try.prog 26 #[.pointer p,v] W λe w'=>e = .returned (.int .i64 8)/\Below W.heap.size W w':=by
 have H:=Aside0.mk (broken_nobody h)
 clear h
 go_enter Try.func26,Try.ntmps26
 go_wp2_with (first|(go_at_call 14;(with_reducible refine Calls.mono H.out ?_);rintro e w1 ⟨rfl,hb⟩;have HB:=Aside0.mk hb;clear hb))
 go_ret
 exact ⟨rfl,HB.out⟩
set_option maxHeartbeats 4000000 in
set_option maxRecDepth 100000 in
theorem sync_nobody {p:Option Addr} (h:Nobody W p):Calls Try.prog 27 #[.pointer p] W λe w'=>e = .returned (.int .i64 8)/\Below W.heap.size W w':=by
 have H:=Aside0.mk (broken_nobody h)
 clear h
 go_enter Try.func27,Try.ntmps27
 go_wp2_with (first|(go_at_call 14;(with_reducible refine Calls.mono H.out ?_);rintro e w1 ⟨rfl,hb⟩;have HB:=Aside0.mk hb;clear hb))
 go_ret
 exact ⟨rfl,HB.out⟩
set_option maxHeartbeats 4000000 in
set_option maxRecDepth 100000 in
theorem turn_nobody {p:Option Addr} (h:Nobody W p):Calls Try.prog 29 #[.pointer p] W λe w'=>e = .returned (.int .i64 0)/\Below W.heap.size W w':=by
 rcases h with rfl|⟨gj,rfl,h⟩
 ·go_enter Try.func29,Try.ntmps29
  go_wp2
  go_ret
  exact ⟨rfl,Below.refl _ _⟩
 ·have c2:=(blk_cell h 2).trans (rfl:_=some (Value.int .u64 0))
  clear h
  go_enter Try.func29,Try.ntmps29
  go_wp2
  go_ret
  exact ⟨rfl,Below.refl _ _⟩
set_option maxHeartbeats 4000000 in
set_option maxRecDepth 100000 in
theorem size_nobody {p:Option Addr} (h:Nobody W p):Calls Try.prog 30 #[.pointer p] W λe w'=>e = .returned (.int .i64 0)/\Below W.heap.size W w':=by
 rcases h with rfl|⟨gj,rfl,h⟩
 ·go_enter Try.func30,Try.ntmps30
  go_wp2
  go_ret
  exact ⟨rfl,Below.refl _ _⟩
 ·have c0:=(blk_cell h 0).trans (rfl:_=some (Value.pointer none))
  have c2:=(blk_cell h 2).trans (rfl:_=some (Value.int .u64 0))
  clear h
  go_enter Try.func30,Try.ntmps30
  go_wp2
  go_ret
  exact ⟨rfl,Below.refl _ _⟩
set_option maxHeartbeats 4000000 in
set_option maxRecDepth 100000 in
theorem dead_calls (h:Raw w0 W g v0 v1 D d):Calls Try.prog 68 #[.pointer (some ⟨g,0,none⟩)] W λe w'=>e = .returned (.bool d.dead)/\Below W.heap.size W w':=by
 have H:=Aside0.mk (off_calls h)
 clear h
 go_enter Try.func68,Try.ntmps68
 go_wp2_with (first|(go_at_call 106;(with_reducible refine Calls.mono H.out ?_);rintro e w1 ⟨rfl,hb⟩;have HB:=Aside0.mk hb;clear hb))
 go_ret
 exact ⟨rfl,HB.out⟩
set_option maxHeartbeats 4000000 in
set_option maxRecDepth 100000 in
theorem renew_nobody {p:Option Addr} (h:Nobody W p) (v:Value):Calls Try.prog 28 #[.pointer p,v] W λe w'=>e = .returned (.int .i64 8)/\Below W.heap.size W w':=by
 have H:=λW1 hW=>broken_nobody (h.on (W1:=W1) hW)
 have HH:=Aside0.mk H
 have hmf:∀ (fn:Fn) (first cap:Array Value) (w:World),(Instr.makeFunc fn first cap).run Try.prog w = .ok (.func fn first cap) w:=λ_ _ _ _=>rfl
 clear h H
 go_enter_defers Try.func28,Try.ntmps28
 go_wp2_with (first|(go_at_call 14;(with_reducible refine Calls.mono (HH.out _ (below_alloc (Below.refl _ _) _)) ?_);rintro e w1 ⟨rfl,hb⟩;have HB:=Aside0.mk (below_step (below_alloc (Below.refl _ _) _) hb);clear hb))
 exact ⟨_,results_tmp rfl _ _ _,rfl,HB.out⟩
set_option maxHeartbeats 4000000 in
set_option maxRecDepth 100000 in
theorem open_nil (W:World):Calls Try.prog 18 #[.pointer none] W λe w'=>e = .returned (.tuple #[.pointer none,.slice none 0 0,.int .i64 1])/\Below W.heap.size W w':=by
 go_enter Try.func18,Try.ntmps18
 go_wp2
 go_returns
 exact ⟨rfl,Below.refl _ _⟩
abbrev Unmade (W:World) (g:Nat):Prop:=W.heap[g]? = some (.cells #[.slice none 0 0,.int .i64 0,.slice none 0 0,.int .i64 0,.int .i64 0,.int .i64 0,.bool false,.bool false] 71 (0,0))
set_option maxHeartbeats 4000000 in
set_option maxRecDepth 100000 in
theorem off_unmade (h:Unmade W g):Calls Try.prog 106 #[.pointer (some ⟨g,0,none⟩)] W λe w'=>e = .returned (.bool true)/\Below W.heap.size W w':=by
 have c6:=(blk_cell h 6).trans (rfl:_=some (Value.bool false))
 have c7:=(blk_cell h 7).trans (rfl:_=some (Value.bool false))
 clear h
 go_enter Try.func106,Try.ntmps106
 go_wp2
 go_ret
 exact ⟨rfl,Below.refl _ _⟩
set_option maxHeartbeats 4000000 in
set_option maxRecDepth 100000 in
theorem at_unmade (h:Unmade W g) (i:Int):Calls Try.prog 81 #[.pointer (some ⟨g,0,none⟩),.int .i64 i] W λe w'=>e = .returned (.int .i64 9)/\Below W.heap.size W w':=by
 have H:=Aside0.mk (off_unmade h)
 clear h
 go_enter Try.func81,Try.ntmps81
 go_wp2_with (first|(go_at_call 106;(with_reducible refine Calls.mono H.out ?_);rintro e w1 ⟨rfl,hb⟩;have HB:=Aside0.mk hb;clear hb H))
 go_ret
 exact ⟨rfl,HB.out⟩
set_option maxHeartbeats 4000000 in
set_option maxRecDepth 100000 in
theorem read_unmade (h:Unmade W g) (i:Int):Calls Try.prog 49 #[.pointer (some ⟨g,0,none⟩),.int .i64 i] W λe w'=>e = .returned (.tuple #[.slice none 0 0,.int .i64 9])/\Below W.heap.size W w':=by
 have H:=Aside0.mk (at_unmade h i)
 clear h
 go_enter Try.func49,Try.ntmps49
 go_wp2_with (first|(go_at_call 81;(with_reducible refine Calls.mono H.out ?_);rintro e w1 ⟨rfl,hb⟩;have HB:=Aside0.mk hb;clear hb H))
 refine bodyPost_ret (results_tmp2 rfl _ _ _) rfl ?_
 exact ⟨rfl,HB.out⟩
set_option maxHeartbeats 8000000 in
set_option maxRecDepth 100000 in
theorem open_unmade (h:Unmade W g):Calls Try.prog 18 #[.pointer (some ⟨g,0,none⟩)] W λe w'=>e = .returned (.tuple #[.pointer none,.slice none 0 0,.int .i64 9])/\Below W.heap.size W w':=by
 have HH:=Aside0.mk (λW1 hW=>read_unmade (W:=W1) (g:=g) (blk_below h hW) 0)
 clear h
 go_enter Try.func18,Try.ntmps18
 go_wp2
 refine wp_loop_rounds 3 ?_
 rw [rounds_succ]
 go_wp2_with (first|(go_at_call 49;(with_reducible refine Calls.mono (HH.out _ (below_alloc (below_alloc (Below.refl _ _) _) _)) ?_);rintro e w1 ⟨rfl,hb⟩;have HB:=Aside0.mk (below_step (below_alloc (below_alloc (Below.refl _ _) _) _) hb);clear hb))
 go_returns
 exact ⟨rfl,HB.out⟩
end
end Go.Proofs.Ytfhamdobagjakaa.Dsk
