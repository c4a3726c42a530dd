/- a part -/
import Derived.Test.YtfhamdobagjakaaClockJoin
namespace Go.Proofs.Ytfhamdobagjakaa.ClockBase
set_option linter.unusedVariables false
set_option linter.unusedSimpArgs false
def GoodC (f:List Int):Prop:=f.length=5/\∀ n ∈ f,0<=n/\n<=1048576
theorem bad_not {n:Int}:bad n=false↔0<=n/\n<=1048576:=by
 unfold bad
 simp only [Bool.or_eq_false_iff,decide_eq_false_iff_not]
 omega
theorem okC_iff {l:List Int}:okC l=true↔l.length<=5/\∀ n ∈ l,0<=n/\n<=1048576:=by
 unfold okC
 simp only [Bool.and_eq_true,decide_eq_true_eq,Bool.not_eq_true',List.any_eq_false,Bool.not_eq_true,bad_not]
theorem good_of (l:List Int):GoodC (ofL l):=by
 refine ⟨ofL_length l,λn hn=>?_⟩
 unfold ofL at hn
 by_cases h:okC l=true
 ·rw [if_pos h] at hn
  rcases List.mem_append.1 hn with hn|hn
  ·exact(okC_iff.1 h).2 n hn
  ·rw [(List.mem_replicate.1 hn).2]
   omega
 ·rw [if_neg h] at hn
  rw [(List.mem_replicate.1 hn).2]
  omega
def le5 (a b:List Int):Prop:=∀ i,i<5->a.getD i 0<=b.getD i 0
instance (a b:List Int):Decidable (le5 a b):=by unfold le5;infer_instance
theorem sum_eq (l:List Int):sumS l=(ofL l).getD 0 0+(ofL l).getD 1 0+(ofL l).getD 2 0+(ofL l).getD 3 0+(ofL l).getD 4 0:=by
 obtain ⟨y0,y1,y2,y3,y4,e⟩:=five (ofL_length l)
 have g:=good_of l
 unfold sumS
 rw [e] at g ⊢
 have h0:=g.2 y0 (by simp)
 have h1:=g.2 y1 (by simp)
 have h2:=g.2 y2 (by simp)
 have h3:=g.2 y3 (by simp)
 have h4:=g.2 y4 (by simp)
 simp only [List.foldl,List.getD_cons_zero,List.getD_cons_succ,Go.RowKit.wrap64]
 omega
end Go.Proofs.Ytfhamdobagjakaa.ClockBase
