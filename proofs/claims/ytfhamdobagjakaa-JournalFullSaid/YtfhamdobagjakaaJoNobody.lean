/- a part -/
import Derived.Test.YtfhamdobagjakaaDkWalk2
import Derived.Handy
import Derived.Defers
namespace Go.Proofs.Ytfhamdobagjakaa.Dsk
open Go.RowKit Go.Proofs.YtfhamdobagjakaaW.PrintWords Go.Proofs.YtfhamdobagjakaaW.PrintLast Go.Proofs.YtfhamdobagjakaaW.PrintMore Go.Proofs.Ytfhamdobagjakaa.Hand Go.Proofs.Ytfhamdobagjakaa.Cards Go.Proofs.Ytfhamdobagjakaa.PJo
set_option linter.unusedVariables false
set_option linter.unusedSimpArgs false
section
variable {w0 W : World} {g gj : Nat} {v0 v1 : Value} {D : Nat -> Prop} {d : Dk}
abbrev JoObj (p:Option Addr) (slot turn:Int) (broken:Bool):Obj:=.cells #[.pointer p,.int .i64 slot,.int .u64 turn,.bool broken] 64 (0,0)
def Nobody (W:World) (p:Option Addr):Prop:=p=none\/∃ gj,p=some ⟨gj,0,none⟩/\W.heap[gj]? = some (JoObj none 0 0 false)
theorem Nobody.on {W1:World} {p:Option Addr} (h:Nobody W p) (hb:Below W.heap.size W W1):Nobody W1 p:=by
 rcases h with h|⟨gj,e,h⟩
 ·exact .inl h
 ·exact .inr ⟨gj,e,blk_below h hb⟩
set_option maxHeartbeats 4000000 in
set_option maxRecDepth 100000 in
theorem broken_on {slot turn:Int} {b:Bool} {q:Addr} (h:W.heap[gj]? = some (JoObj (some q) slot turn b)):Calls Try.prog 14 #[.pointer (some ⟨gj,0,none⟩)] W λe w'=>e = .returned (.bool b)/\Below W.heap.size W w':=by
 have c0:=(blk_cell h 0).trans (rfl:_=some (Value.pointer (some q)))
 have c3:=(blk_cell h 3).trans (rfl:_=some (Value.bool b))
 clear h
 go_enter Try.func14,Try.ntmps14
 go_wp2
 go_ret
 exact ⟨rfl,Below.refl _ _⟩
set_option maxHeartbeats 4000000 in
set_option maxRecDepth 100000 in
theorem dead_calls (h:Raw w0 W g v0 v1 D d):Calls Try.prog 68 #[.pointer (some ⟨g,0,none⟩)] W λe w'=>e = .returned (.bool d.dead)/\Below W.heap.size W w':=by
 have H:=Aside0.mk (off_calls h)
 clear h
 go_enter Try.func68,Try.ntmps68
 go_wp2_with (first|(go_at_call 106;(with_reducible refine Calls.mono H.out ?_);rintro e w1 ⟨rfl,hb⟩;have HB:=Aside0.mk hb;clear hb))
 go_ret
 exact ⟨rfl,HB.out⟩
end
end Go.Proofs.Ytfhamdobagjakaa.Dsk
