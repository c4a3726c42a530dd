/- a part -/
import Derived.Test.YtfhamdobagjakaaClockPlain
namespace Go.Proofs.Ytfhamdobagjakaa.ClockBase
open Go.RowKit Go.Lib Go.Proofs.YtfhamdobagjakaaW.PrintWords Go.Proofs.YtfhamdobagjakaaW.PrintLast Go.Proofs.YtfhamdobagjakaaW.PrintMore
set_option linter.unusedVariables false
set_option linter.unusedSimpArgs false
theorem of_five {A:Option Addr} {c:Nat} {l:List Int} {w:World} (hr:Kd.C (Kd.int .i64) w A l.length l):∃ y0 y1 y2 y3 y4,ofL l=[y0,y1,y2,y3,y4]/\∀ W,Below w.heap.size w W ->
  Calls Try.prog 86 #[.slice A l.length c] W λe w'=>e = .returned (.agg #[.int .i64 y0,.int .i64 y1,.int .i64 y2,.int .i64 y3,.int .i64 y4])/\Below W.heap.size W w':=by
 obtain ⟨y0,y1,y2,y3,y4,e⟩:=five (ofL_length l)
 refine ⟨y0,y1,y2,y3,y4,e,λW hb=>?_⟩
 have h:=of_calls A c l W (Kd.C_below hr hb)
 rw [e] at h
 exact h
set_option maxRecDepth 100000 in
theorem Plain_calls (A:Option Addr) (c:Nat) (l:List Int) (w:World) (hr:Kd.C (Kd.int .i64) w A l.length l) :
  Calls Try.prog 53 #[.slice A l.length c] w λe w'=>∃ v,e = .returned v/\Kd.R (Kd.int .i64) 3 w' w.heap.size (λ_=>True) v (trim (ofL l))/\Below w.heap.size w w':=by
 obtain ⟨y0,y1,y2,y3,y4,e,hof⟩:=of_five (c:=c) hr
 rw [e]
 have hof:=hof w (Below.refl _ _)
 have hpl:=λW=>plain_calls y0 y1 y2 y3 y4 W
 clear e hr
 generalize trim [y0,y1,y2,y3,y4]=r at hpl ⊢
 go_enter Try.func53,Try.ntmps53
 go_wp2_with (first|(go_at_call 86;refine hof.mono ?_;rintro e w1 ⟨rfl,hB1⟩)|(go_at_call 87;refine(hpl _).mono ?_;rintro e w2 ⟨v,rfl,hv,hB2⟩))
 go_ret
 exact ⟨v,rfl,Kd.R_lower hv (below_size hB1),below_step hB1 hB2⟩
theorem there_in (rep:Int) (w:World) (h1:1<=rep) (h5:rep<=5):Calls Try.prog 116 #[.int .i64 rep] w λe w'=>e = .returned (.bool true)/\w'=w:=by
 go_enter Try.func116,Try.ntmps116
 go_wp2
 go_ret
 exact ⟨by simp_all,rfl⟩
def getS (l:List Int) (rep:Int):Int:=if 1<=rep/\rep<=5 then(ofL l).getD (rep - 1).toNat 0 else 0
set_option maxRecDepth 100000 in
set_option maxHeartbeats 4000000 in
theorem Get_calls (A:Option Addr) (c:Nat) (l:List Int) (rep:Int) (w:World) (hr:Kd.C (Kd.int .i64) w A l.length l) :
  Calls Try.prog 89 #[.slice A l.length c,.int .i64 rep] w λe w'=>e = .returned (.int .i64 (getS l rep))/\Below w.heap.size w w':=by
 obtain ⟨y0,y1,y2,y3,y4,e,hof⟩:=of_five (c:=c) hr
 have hof:=hof w (Below.refl _ _)
 unfold getS
 rw [e]
 clear e hr
 by_cases h1:1<=rep
 ·by_cases h5:rep<=5
  ·have h:rep=1\/rep=2\/rep=3\/rep=4\/rep=5:=by omega
   rw [if_pos ⟨h1,h5⟩]
   clear h1 h5
   rcases h with rfl|rfl|rfl|rfl|rfl
   all_goals
    go_enter Try.func89,Try.ntmps89
    go_wp2_with (first|(go_at_call 86;refine hof.mono ?_;rintro e w1 ⟨rfl,hB1⟩)|(go_at_call 116;refine(there_in _ _ (by omega) (by omega)).mono ?_;rintro e w' ⟨rfl,rfl⟩))
    go_returns
    refine ⟨rfl,?_⟩
    repeat' (first|(with_reducible exact hB1)|(with_reducible refine Below.setCell ?_ ?_ _)|(with_reducible refine pw_below_drewN ?_ _)|(with_reducible refine below_alloc ?_ _)|(with_reducible exact below_size hB1))
  ·rw [if_neg (λh=>h5 h.2)]
   have h5':(5:Int)<rep:=by omega
   go_enter Try.func89,Try.ntmps89
   go_wp2
   go_returns
   exact ⟨rfl,Below.refl _ _⟩
 ·rw [if_neg (λh=>h1 h.1)]
  go_enter Try.func89,Try.ntmps89
  go_wp2
  go_returns
  exact ⟨rfl,Below.refl _ _⟩
end Go.Proofs.Ytfhamdobagjakaa.ClockBase
