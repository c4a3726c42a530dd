/- a part -/
import Derived.Test.YtfhamdobagjakaaClockBase
import Derived.Test.YtfhamdobagjakaaClockClone
namespace Go.Proofs.Ytfhamdobagjakaa.ClockBase
open Go.RowKit Go.Lib Go.Proofs.YtfhamdobagjakaaW.PrintWords Go.Proofs.YtfhamdobagjakaaW.PrintLast Go.Proofs.YtfhamdobagjakaaW.PrintMore
set_option linter.unusedVariables false
set_option linter.unusedSimpArgs false
theorem row_C {W:World} {g:Nat} {t:TypeId} {xs:List Int} {n:Nat} (hg:W.heap[g]? = some (.cells (xs.map (Value.int .i64)).toArray t (0,0))) (hn:n<=xs.length) (h5:xs.length<=5):Kd.C (Kd.int .i64) W (some ⟨g,0,none⟩) (xs.take n).length (xs.take n):=by
 refine ⟨rfl,by rw [List.length_take];omega,λ_=>⟨_,rfl,λj p hj=>⟨[.int .i64 p],rfl,rfl,λi u hu=>?_⟩⟩⟩
 have hi:i=0/\u = .int .i64 p:=by
  cases i with
  | zero=>exact ⟨rfl,(by simpa using hu.symm)⟩
  | succ i=>simp at hu
 obtain ⟨rfl,rfl⟩:=hi
 have hjn:j<n:=by
  by_cases h:j<n
  ·exact h
  ·rw [List.getElem?_take,if_neg h] at hj
   cases hj
 rw [List.getElem?_take,if_pos hjn] at hj
 have e:(⟨g,0,none⟩:Addr).add (j*(Kd.int .i64).sz+0)=⟨g,j,none⟩:=by
  show(⟨g,0,none⟩:Addr).add (j*1+0)=⟨g,j,none⟩
  rw [Nat.mul_one,Nat.add_zero]
  unfold Addr.add
  split<;>simp_all
 rw [e]
 simp [World.cell?,hg,hj]
theorem clone_calls (g:Nat) (xs:List Int) (n:Nat) (W:World) (t:TypeId) (hg:W.heap[g]? = some (.cells (xs.map (Value.int .i64)).toArray t (0,0))) (hn:n<=xs.length) (h5:xs.length=5) :
  Calls Try.prog 76 #[.slice (some ⟨g,0,none⟩) n 5] W λe w'=>∃ v,e = .returned v/\Kd.R (Kd.int .i64) 3 w' W.heap.size (λ_=>True) v (xs.take n)/\Below W.heap.size W w':=by
 have e:n=(xs.take n).length:=by rw [List.length_take];omega
 have h:=clockClone.calls (some ⟨g,0,none⟩) 5 (xs.take n) (xs.take n) W (row_C hg hn (by omega)) (by omega) (by
  unfold clockClone.f
  simp only [Option.bind_some,List.nil_append,List.length_nil]
  rw [if_pos (by omega)])
 rw [<-e] at h
 exact h
def upto0 (f:List Int):Nat->Nat
 | 0=>0
 | n+1=>if f.getD n 0=0 then upto0 f n else n+1
def trim (f:List Int):List Int:=f.take (upto0 f f.length)
set_option maxHeartbeats 8000000 in
set_option maxRecDepth 100000 in
theorem plain_calls (y0 y1 y2 y3 y4:Int) (w:World) :
  Calls Try.prog 87 #[.agg #[.int .i64 y0,.int .i64 y1,.int .i64 y2,.int .i64 y3,.int .i64 y4]] w λe w'=>∃ v,e = .returned v/\Kd.R (Kd.int .i64) 3 w' w.heap.size (λ_=>True) v (trim [y0,y1,y2,y3,y4])/\Below w.heap.size w w':=by
 have hcl:=λn=>clone_calls w.heap.size [y0,y1,y2,y3,y4] n (w.alloc (.cells #[.int .i64 y0,.int .i64 y1,.int .i64 y2,.int .i64 y3,.int .i64 y4] 132)) 132 (alloc_last _ _)
 by_cases h4:y4=0
 ·subst h4
  by_cases h3:y3=0
  ·subst h3
   by_cases h2:y2=0
   ·subst h2
    by_cases h1:y1=0
    ·subst h1
     by_cases h0:y0=0
     ·subst h0
      have e:trim [0,0,0,0,0]=List.take 0 [0,0,0,0,0]:=by simp [trim,upto0]
      rw [e]
      have hc:=hcl 0 (by simp) rfl
      clear hcl e
      go_enter Try.func87,Try.ntmps87
      go_wp2
      refine wp_loop_rounds 6 ?_
      repeat any_goals (rw [rounds_succ];go_wp2_with (go_at_call 76;refine hc.mono ?_;rintro e w' ⟨v,rfl,hv,hB⟩))
      go_ret
      exact ⟨v,rfl,Kd.R_lower hv (by simp),below_step (below_alloc (Below.refl _ _) _) hB⟩
     ·skip
      have e:trim [y0,0,0,0,0]=List.take 1 [y0,0,0,0,0]:=by simp [trim,upto0,h0]
      rw [e]
      have hc:=hcl 1 (by simp) rfl
      clear hcl e
      have hb:(y0 == 0)=false:=beq_eq_false_iff_ne.2 h0
      go_enter Try.func87,Try.ntmps87
      go_wp2
      refine wp_loop_rounds 6 ?_
      repeat any_goals (rw [rounds_succ];go_wp2_with (go_at_call 76;refine hc.mono ?_;rintro e w' ⟨v,rfl,hv,hB⟩))
      go_ret
      exact ⟨v,rfl,Kd.R_lower hv (by simp),below_step (below_alloc (Below.refl _ _) _) hB⟩
    ·skip
     have e:trim [y0,y1,0,0,0]=List.take 2 [y0,y1,0,0,0]:=by simp [trim,upto0,h1]
     rw [e]
     have hc:=hcl 2 (by simp) rfl
     clear hcl e
     have hb:(y1 == 0)=false:=beq_eq_false_iff_ne.2 h1
     go_enter Try.func87,Try.ntmps87
     go_wp2
     refine wp_loop_rounds 6 ?_
     repeat any_goals (rw [rounds_succ];go_wp2_with (go_at_call 76;refine hc.mono ?_;rintro e w' ⟨v,rfl,hv,hB⟩))
     go_ret
     exact ⟨v,rfl,Kd.R_lower hv (by simp),below_step (below_alloc (Below.refl _ _) _) hB⟩
   ·skip
    have e:trim [y0,y1,y2,0,0]=List.take 3 [y0,y1,y2,0,0]:=by simp [trim,upto0,h2]
    rw [e]
    have hc:=hcl 3 (by simp) rfl
    clear hcl e
    have hb:(y2 == 0)=false:=beq_eq_false_iff_ne.2 h2
    go_enter Try.func87,Try.ntmps87
    go_wp2
    refine wp_loop_rounds 6 ?_
    repeat any_goals (rw [rounds_succ];go_wp2_with (go_at_call 76;refine hc.mono ?_;rintro e w' ⟨v,rfl,hv,hB⟩))
    go_ret
    exact ⟨v,rfl,Kd.R_lower hv (by simp),below_step (below_alloc (Below.refl _ _) _) hB⟩
  ·skip
   have e:trim [y0,y1,y2,y3,0]=List.take 4 [y0,y1,y2,y3,0]:=by simp [trim,upto0,h3]
   rw [e]
   have hc:=hcl 4 (by simp) rfl
   clear hcl e
   have hb:(y3 == 0)=false:=beq_eq_false_iff_ne.2 h3
   go_enter Try.func87,Try.ntmps87
   go_wp2
   refine wp_loop_rounds 6 ?_
   repeat any_goals (rw [rounds_succ];go_wp2_with (go_at_call 76;refine hc.mono ?_;rintro e w' ⟨v,rfl,hv,hB⟩))
   go_ret
   exact ⟨v,rfl,Kd.R_lower hv (by simp),below_step (below_alloc (Below.refl _ _) _) hB⟩
 ·skip
  have e:trim [y0,y1,y2,y3,y4]=List.take 5 [y0,y1,y2,y3,y4]:=by simp [trim,upto0,h4]
  rw [e]
  have hc:=hcl 5 (by simp) rfl
  clear hcl e
  have hb:(y4 == 0)=false:=beq_eq_false_iff_ne.2 h4
  go_enter Try.func87,Try.ntmps87
  go_wp2
  refine wp_loop_rounds 6 ?_
  repeat any_goals (rw [rounds_succ];go_wp2_with (go_at_call 76;refine hc.mono ?_;rintro e w' ⟨v,rfl,hv,hB⟩))
  go_ret
  exact ⟨v,rfl,Kd.R_lower hv (by simp),below_step (below_alloc (Below.refl _ _) _) hB⟩
end Go.Proofs.Ytfhamdobagjakaa.ClockBase
