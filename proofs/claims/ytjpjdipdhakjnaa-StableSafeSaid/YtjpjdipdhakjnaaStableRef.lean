/- a part -/
import Derived.Test.YtjpjdipdhakjnaaStableWords
import Derived.Test.YtjpjdipdhakjnaaClockRefMore
import Derived.Test.YtjpjdipdhakjnaaPStabx4
namespace Go.Proofs.Ytjpjdipdhakjnaa.PStab
open Go.RowKit Go.Proofs.YtjpjdipdhakjnaaW.PrintWords Go.Proofs.YtjpjdipdhakjnaaW.PrintLast Go.Proofs.Ytjpjdipdhakjnaa.ClockBase
set_option linter.unusedVariables false
set_option linter.unusedSimpArgs false
theorem st_rd {l:List (List Int)} {i:Nat} (h:i<l.length):rd_L1 l (i:Int)=l[i]:=by
 unfold rd_L1
 rw [Int.toNat_natCast,List.getD_eq_getElem?_getD,List.getElem?_eq_getElem h]
 rfl
theorem st_rdD (l:List (List Int)) (i:Nat):rd_L1 l (i:Int)=l.getD i []:=rfl
theorem map_take_snoc {l:List (List Int)} {i:Nat} (h:i<l.length):(l.map pl).take (i+1)=(l.map pl).take i++[pl l[i]]:=by
 rw [List.take_add_one,List.getElem?_eq_getElem (by rw [List.length_map];exact h)]
 simp
theorem pLearn_loop (ls:List (List Int)) (own:List Int) (rep:Int) (c:List Int) (hl:ls.length<=5) (h1:1<=rep) (h2:rep<=ls.length) (d:Nat):∀ (i:Nat),i+d=ls.length->Ev (λk=>stable_Learn.l0 k own rep c ((ls.map pl).take i) ls (ls.length:Int) (i:Int)) (learnS ls own rep c,0):=by
 induction d with
 | zero =>
  intro i hi
  obtain rfl:i=ls.length:=by omega
  have e:(ls.map pl).take ls.length=ls.map pl:=by rw [<-List.length_map (f:=pl),List.take_length]
  rw [e]
  refine Ev.step (f:=λ_=>some (learnS ls own rep c,0)) (λk=>?_) (Ev.now _)
  simp only [stable_Learn.l0,clock_Get.f,clock_Join.f,Option.bind_some]
  rw [if_neg (by omega)]
  have hw:wrap64 (rep - 1)=(((rep - 1).toNat:Nat):Int):=by unfold wrap64;omega
  unfold learnS
  by_cases hc:getS c rep<=getS own rep
  ·rw [if_pos hc,if_pos hc,hw,if_pos (by omega),if_pos (by rw [List.length_map];omega),st_rdD,Int.toNat_natCast]
  ·rw [if_neg hc,if_neg hc]
 | succ d ih =>
  intro i hi
  have hlt:i<ls.length:=by omega
  refine Ev.step (f:=λk=>stable_Learn.l0 k own rep c ((ls.map pl).take i++[pl ls[i]]) ls (ls.length:Int) ((i+1:Nat):Int)) (λk=>?_) ?_
  ·simp only [stable_Learn.l0,clock_Plain.f,Option.bind_some]
   rw [if_pos (by omega),if_pos (by omega),if_pos (by omega),st_rd hlt,if_pos (by rw [List.length_take,List.length_map];omega),ck_w (by omega)]
   rfl
  ·rw [<-map_take_snoc hlt]
   exact ih (i+1) (by omega)
def learnP (ls:List (List Int)) (own:List Int) (rep:Int) (c:List Int):List (List Int)×Int:=if mayS ls own=true/\okC c=true/\1<=rep/\rep<=ls.length then(learnS ls own rep c,0) else([],1)
theorem pLearn_ev (ls:List (List Int)) (own:List Int) (rep:Int) (c:List Int):Ev (λk=>stable_Learn.f k ls own rep c) (learnP ls own rep c):=by
 have hbad:∀ r,r=(([]:List (List Int)),(1:Int))->Ev (λk=>stable_Learn.j0 k ls own rep c true) r:=by
  rintro r rfl
  refine Ev.step (f:=λ_=>some ([],1)) (λk=>?_) (Ev.now _)
  simp only [stable_Learn.j0]
  rfl
 unfold stable_Learn.f learnP
 simp only [stable_may.f,clock_Check.f,Option.bind_some]
 by_cases hm:mayS ls own=true
 ·refine ck_if hm ?_
  by_cases hk:okC c=true
  ·simp only [if_pos hk]
   refine ck_if trivial ?_
   by_cases h1:rep<1
   ·refine ck_if h1 (hbad _ ?_)
    rw [if_neg (by omega)]
   ·refine ck_else h1 ?_
    by_cases h2:rep > (ls.length:Int)
    ·rw [decide_eq_true h2]
     refine hbad _ ?_
     rw [if_neg (by omega)]
    ·rw [decide_eq_false h2,if_pos ⟨hm,hk,by omega,by omega⟩]
     have h:=pLearn_loop ls own rep c (mayS_iff.1 hm).1.2 (by omega) (by omega) ls.length 0 (by omega)
     rw [List.take_zero] at h
     refine Ev.step (f:=λk=>stable_Learn.l0 k own rep c ([]:List (List Int)) ls (ls.length:Int) 0) (λk=>?_) h
     simp only [stable_Learn.j0]
     rfl
  ·simp only [if_neg hk]
   refine ck_else (by simp) (hbad _ ?_)
   rw [if_neg (λh=>hk h.2.1)]
 ·refine ck_else hm (hbad _ ?_)
  rw [if_neg (λh=>hm h.1)]
theorem pStable_loop (ls:List (List Int)) (hl:ls.length<=5) (d:Nat):∀ (i:Nat) (a:List Int),i+d=ls.length->Ev (λk=>stable_Stable.l0 k a ls (ls.length:Int) (i:Int)) ((ls.drop i).foldl (λa x=>trim (meetS a x)) a):=by
 induction d with
 | zero =>
  intro i a hi
  rw [List.drop_eq_nil_of_le (by omega)]
  refine Ev.step (f:=λ_=>some a) (λk=>?_) (Ev.now _)
  simp only [stable_Stable.l0]
  rw [if_neg (by omega)]
 | succ d ih =>
  intro i a hi
  have hlt:i<ls.length:=by omega
  rw [List.drop_eq_getElem_cons hlt,List.foldl_cons]
  refine Ev.step (f:=λk=>stable_Stable.l0 k (trim (meetS a ls[i])) ls (ls.length:Int) ((i+1:Nat):Int)) (λk=>?_) (ih (i+1) _ (by omega))
  simp only [stable_Stable.l0,clock_Meet.f,Option.bind_some]
  rw [if_pos (by omega),if_pos (by omega),if_pos (by omega),st_rd hlt,ck_w (by omega)]
def stableP (ls:List (List Int)) (own:List Int):List Int:=if mayS ls own=true then stableS ls own else []
theorem pStable_ev (ls:List (List Int)) (own:List Int):Ev (λk=>stable_Stable.f k ls own) (stableP ls own):=by
 unfold stable_Stable.f stableP
 simp only [stable_may.f,clock_Plain.f,Option.bind_some]
 by_cases hm:mayS ls own=true
 ·refine ck_if hm ?_
  rw [if_pos hm]
  have h:=pStable_loop ls (mayS_iff.1 hm).1.2 ls.length 0 (pl own) (by omega)
  rw [List.drop_zero] at h
  exact h
 ·refine ck_else hm ?_
  rw [if_neg hm]
  exact Ev.now _
theorem awake_ev:Ev (λk=>w29_awake.f k) true:=by
 unfold w29_awake.f
 have e0:stable_New.f 2=some ([[],[]],0):=by decide +kernel
 have e1:learnP [[],[]] [1,1] 1 [1,1]=([[1,1],[]],0):=by decide +kernel
 have e2:learnP [[1,1],[]] [1,1] 2 [1,1]=([[1,1],[1,1]],0):=by decide +kernel
 have e3:stableP [[1,1],[1,1]] [1,1]=[1,1]:=by decide +kernel
 have h1:=pLearn_ev [[],[]] [1,1] 1 [1,1]
 have h2:=pLearn_ev [[1,1],[]] [1,1] 2 [1,1]
 have h3:=pStable_ev [[1,1],[1,1]] [1,1]
 rw [e1] at h1
 rw [e2] at h2
 rw [e3] at h3
 rw [e0]
 simp only [Option.bind_some]
 refine Ev.bind h1 (Ev.bind h2 (ck_if trivial (ck_if rfl (ck_if rfl (Ev.bind h3 (Ev.bind (same_yes _ (by decide)) (Ev.now _)))))))
end Go.Proofs.Ytjpjdipdhakjnaa.PStab
