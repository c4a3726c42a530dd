/- a part -/
import Derived.Test.YtjpjdipdhakjnaaClockMay
import Derived.Test.YtjpjdipdhakjnaaClockWords
namespace Go.Proofs.Ytjpjdipdhakjnaa.ClockBase
set_option linter.unusedVariables false
set_option linter.unusedSimpArgs false
def pl (x:List Int):List Int:=trim (ofL x)
theorem ofL_pl (x:List Int):ofL (pl x)=ofL x:=ofL_plain x
theorem pl_good {f:List Int} (h:GoodC f):pl (trim f)=trim f:=by
 unfold pl
 rw [good_trim h]
def learnS (ls:List (List Int)) (own:List Int) (rep:Int) (c:List Int):List (List Int) :=
 if getS c rep<=getS own rep then(ls.map pl).set (rep - 1).toNat (trim (joinS [(ls.map pl).getD (rep - 1).toNat [],c])) else ls.map pl
theorem learn_length (ls:List (List Int)) (own:List Int) (rep:Int) (c:List Int):(learnS ls own rep c).length=ls.length:=by
 unfold learnS
 split
 ·rw [List.length_set,List.length_map]
 ·rw [List.length_map]
theorem learn_at (ls:List (List Int)) (own:List Int) (rep:Int) (c:List Int) (h1:1<=rep) (i:Nat) (hi:i<ls.length) :
  (learnS ls own rep c).getD i []=if ((i:Int)+1=rep)/\getS c rep<=getS own rep then trim (joinS [pl (ls.getD i []),c]) else pl (ls.getD i []):=by
 have e:(ls.map pl).getD i []=pl (ls.getD i []):=by
  rw [List.getD_eq_getElem?_getD,List.getD_eq_getElem?_getD,List.getElem?_map,List.getElem?_eq_getElem hi]
  rfl
 unfold learnS
 by_cases hc:getS c rep<=getS own rep
 ·rw [if_pos hc]
  by_cases hr:(i:Int)+1=rep
  ·have hn:(rep - 1).toNat=i:=by omega
   rw [if_pos ⟨hr,hc⟩,hn,e,List.getD_eq_getElem?_getD,List.getElem?_set_self (by rw [List.length_map];exact hi)]
   rfl
  ·rw [if_neg (λh=>hr h.1),List.getD_eq_getElem?_getD,List.getElem?_set_ne (by omega),<-List.getD_eq_getElem?_getD,e]
 ·rw [if_neg hc,if_neg (λh=>hc h.2),e]
def stableS (ls:List (List Int)) (own:List Int):List Int:=ls.foldl (λa x=>trim (meetS a x)) (pl own)
theorem stable_good:∀ (ls:List (List Int)) (a:List Int),pl a=a->pl (ls.foldl (λa x=>trim (meetS a x)) a)=ls.foldl (λa x=>trim (meetS a x)) a
 | [],a,h=>h
 | x :: ls,a,h=>stable_good ls _ (pl_good (good_meet a x))
theorem stable_plain (ls:List (List Int)) (own:List Int):pl (stableS ls own)=stableS ls own:=stable_good ls _ (by unfold pl;rw [ofL_plain])
def leastF (i:Nat) (ls:List (List Int)) (n:Int):Int:=ls.foldl (λn x=>if (ofL x).getD i 0<n then(ofL x).getD i 0 else n) n
theorem stable_at_from (i:Nat) (hi:i<5):∀ (ls:List (List Int)) (a:List Int),(ofL (ls.foldl (λa x=>trim (meetS a x)) a)).getD i 0=leastF i ls ((ofL a).getD i 0)
 | [],a=>rfl
 | x :: ls,a=>by
  have e:(ofL (trim (meetS a x))).getD i 0=if (ofL x).getD i 0<(ofL a).getD i 0 then(ofL x).getD i 0 else(ofL a).getD i 0:=by
   rw [good_trim (good_meet a x)]
   unfold meetS
   rw [zip5 (ofL_length a) (ofL_length x) i hi]
   rfl
  show(ofL (ls.foldl (λa x=>trim (meetS a x)) (trim (meetS a x)))).getD i 0=leastF i ls (if (ofL x).getD i 0<(ofL a).getD i 0 then(ofL x).getD i 0 else(ofL a).getD i 0)
  rw [stable_at_from i hi ls,e]
theorem stable_at (ls:List (List Int)) (own:List Int) (i:Nat) (hi:i<5):(ofL (stableS ls own)).getD i 0=leastF i ls ((ofL own).getD i 0):=by
 unfold stableS
 rw [stable_at_from i hi,ofL_pl]
theorem leastF_cons (i:Nat) (y:List Int) (ls:List (List Int)) (n:Int):leastF i (y :: ls) n=leastF i ls (if (ofL y).getD i 0<n then(ofL y).getD i 0 else n):=rfl
theorem leastF_le (i:Nat):∀ (ls:List (List Int)) (n:Int),leastF i ls n<=n/\∀ x ∈ ls,leastF i ls n<=(ofL x).getD i 0
 | [],n=>⟨Int.le_refl _,λx hx=>by cases hx⟩
 | y :: ls,n=>by
  have h:=leastF_le i ls (if (ofL y).getD i 0<n then(ofL y).getD i 0 else n)
  rw [leastF_cons]
  generalize leastF i ls (if (ofL y).getD i 0<n then(ofL y).getD i 0 else n)=z at h ⊢
  refine ⟨?_,λx hx=>?_⟩
  ·have h1:=h.1
   split at h1<;>omega
  ·rcases List.mem_cons.1 hx with rfl|hx
   ·have h1:=h.1
    split at h1<;>omega
   ·exact h.2 x hx
theorem mayS_iff {ls:List (List Int)} {own:List Int}:mayS ls own=true↔(1<=ls.length/\ls.length<=5)/\okC own=true/\∀ x ∈ ls,okC x=true:=by
 unfold mayS badC
 simp only [Bool.and_eq_true,decide_eq_true_eq,Bool.not_eq_true',List.any_eq_false,Bool.not_eq_true,Bool.not_eq_false',Bool.not_eq_false]
end Go.Proofs.Ytjpjdipdhakjnaa.ClockBase
