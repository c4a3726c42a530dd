/- a part -/
import Derived.Test.YtjpjdipdhakjnaaClockWords
import Derived.Test.YtjpjdipdhakjnaaPStabx3
namespace Go.Proofs.Ytjpjdipdhakjnaa.PStab
open Go.RowKit Go.Proofs.YtjpjdipdhakjnaaW.PrintWords Go.Proofs.YtjpjdipdhakjnaaW.PrintLast Go.Proofs.Ytjpjdipdhakjnaa.ClockBase
set_option linter.unusedVariables false
set_option linter.unusedSimpArgs false
theorem ck_if {α:Type} {c:Prop} [Decidable c] {f g:Nat->Option α} {r:α} (hc:c) (h:Ev f r):Ev (λk=>if c then f k else g k) r:=Ev.congr (λk=>if_pos hc) h
theorem ck_else {α:Type} {c:Prop} [Decidable c] {f g:Nat->Option α} {r:α} (hc:¬ c) (h:Ev g r):Ev (λk=>if c then f k else g k) r:=Ev.congr (λk=>if_neg hc) h
theorem ck_rd {l:List Int} {i:Nat} (h:i<l.length):rd l (i:Int)=l[i]:=by
 unfold rd
 rw [Int.toNat_natCast,List.getD_eq_getElem?_getD,List.getElem?_eq_getElem h]
 rfl
theorem ck_w {i:Nat} (h:i<9223372036854775807):wrap64 ((i:Int)+1)=((i+1:Nat):Int):=by unfold wrap64;omega
theorem ck_may_loop (l:List Int) (hn:l.length<=140737488355328) (d:Nat):∀ (i:Nat),i+d=l.length->Ev (λk=>r03_May.l0 k l (i:Int)) (!(l.drop i).any bad && decide (l.length<=5)):=by
 induction d with
 | zero =>
  intro i hi
  have e1:l.drop i=[]:=List.drop_eq_nil_of_le (by omega)
  rw [e1]
  refine Ev.step (f:=λ_=>some (decide ((l.length:Int)<=5))) (λk=>?_) ?_
  ·simp only [r03_May.l0]
   rw [if_neg (by omega)]
  ·have e:decide ((l.length:Int)<=5)=(!([]:List Int).any bad && decide (l.length<=5)):=by
    rw [Bool.eq_iff_iff]
    simp
    omega
   rw [<-e]
   exact Ev.now _
 | succ d ih =>
  intro i hi
  have ha:i<l.length:=by omega
  rw [List.drop_eq_getElem_cons ha]
  simp only [List.any_cons]
  cases hb:bad l[i] with
  | true =>
   refine Ev.step (f:=λ_=>some false) (λk=>?_) (by simpa using Ev.now false)
   simp only [r03_May.l0]
   rw [if_pos (by omega),if_pos (by omega),ck_rd ha]
   unfold bad at hb
   simp only [Bool.or_eq_true,decide_eq_true_eq] at hb
   by_cases h0:l[i]<0
   ·rw [if_pos h0]
   ·rw [if_neg h0,if_pos (by omega)]
  | false =>
   refine Ev.step (f:=λk=>r03_May.l0 k l ((i+1:Nat):Int)) (λk=>?_) (by simpa using ih (i+1) (by omega))
   have h0:=bad_not.1 hb
   simp only [r03_May.l0]
   rw [if_pos (by omega),if_pos (by omega),ck_rd ha,if_neg (by omega),if_neg (by omega),ck_w (by omega)]
theorem may_ev (l:List Int) (hn:l.length<=140737488355328):Ev (λk=>r03_May.f k l) (okC l):=by
 have:=ck_may_loop l hn l.length 0 (by omega)
 rw [List.drop_zero] at this
 unfold okC
 rw [Bool.and_comm]
 exact this
theorem ofL_at {l:List Int} (h:okC l=true) {i:Nat} (hi:i<l.length):(ofL l).getD i 0=l[i]:=by
 unfold ofL
 rw [if_pos h,List.getD_eq_getElem?_getD,List.getElem?_append_left hi,List.getElem?_eq_getElem hi]
 rfl
theorem getS_bad {l:List Int} (h:¬ okC l=true) (rep:Int):getS l rep=0:=by
 unfold getS ofL
 rw [if_neg h]
 split
 ·rw [List.getD_eq_getElem?_getD]
  by_cases hi:(rep - 1).toNat<5
  ·rw [List.getElem?_replicate,if_pos hi]
   rfl
  ·rw [List.getElem?_replicate,if_neg hi]
   rfl
 ·rfl
theorem getS_far {l:List Int} (h:okC l=true) {rep:Int} (h1:(l.length:Int)<rep):getS l rep=0:=by
 unfold getS ofL
 rw [if_pos h]
 split
 ·rw [List.getD_eq_getElem?_getD,List.getElem?_append_right (by omega)]
  by_cases hi:(rep - 1).toNat - l.length<5 - l.length
  ·rw [List.getElem?_replicate,if_pos hi]
   rfl
  ·rw [List.getElem?_replicate,if_neg hi]
   rfl
 ·rfl
theorem get_ev (l:List Int) (rep:Int) (hn:l.length<=140737488355328):Ev (λk=>r03_Get.f k l rep) (getS l rep):=by
 unfold r03_Get.f
 refine Ev.bind (may_ev l hn) ?_
 by_cases h:okC l=true
 ·refine ck_if h ?_
  have h5:=(okC_iff.1 h).1
  by_cases h1:rep<1
  ·have e:getS l rep=0:=by unfold getS;rw [if_neg (by omega)]
   rw [e]
   exact ck_if h1 (Ev.now _)
  ·refine ck_else h1 ?_
   by_cases h2:rep > (l.length:Int)
   ·rw [getS_far h h2]
    exact ck_if h2 (Ev.now _)
   ·refine ck_else h2 ?_
    have hw:wrap64 (rep - 1)=(((rep - 1).toNat:Nat):Int):=by unfold wrap64;omega
    have hi:(rep - 1).toNat<l.length:=by omega
    rw [hw]
    refine ck_if (by omega) (ck_if (by omega) ?_)
    have e:getS l rep=rd l (((rep - 1).toNat:Nat):Int):=by
     unfold getS
     rw [if_pos (by omega),ofL_at h hi,ck_rd hi]
    rw [<-e]
    exact Ev.now _
 ·refine ck_else h ?_
  rw [getS_bad h]
  exact Ev.now _
theorem getS_nat (l:List Int) (i:Nat) (hi:i<5):getS l ((i+1:Nat):Int)=(ofL l).getD i 0:=by
 unfold getS
 rw [if_pos (by omega)]
 congr 1
 omega
theorem plain_pad (l:List Int) (hn:l.length<=140737488355328) (i:Nat) (hi:i<5) (r:List Int) (d:Nat):∀ out:List Int,out.length+d=i ->
  Ev (λk=>r03_Plain.l0 k l (out++List.replicate d 0++[getS l ((i+1:Nat):Int)]) ((i+1+1:Nat):Int)) r->Ev (λk=>r03_Plain.l1 k l out ((i+1:Nat):Int)) r:=by
 have hw:wrap64 (((i+1:Nat):Int) - 1)=(i:Int):=by unfold wrap64;omega
 induction d with
 | zero =>
  intro out ho h
  rw [List.replicate_zero,List.append_nil] at h
  refine Ev.step (f:=λk=>(r03_Get.f k l ((i+1:Nat):Int)).bind λt=>if out.length<17592186044416 then r03_Plain.l0 k l (out++[t]) ((i+1+1:Nat):Int) else none) (λk=>?_) ?_
  ·simp only [r03_Plain.l1]
   rw [hw,if_neg (by omega),ck_w (by omega)]
  ·refine Ev.bind (get_ev l _ hn) ?_
   exact ck_if (by omega) h
 | succ d ih =>
  intro out ho h
  refine Ev.step (f:=λk=>r03_Plain.l1 k l (out++[0]) ((i+1:Nat):Int)) (λk=>?_) ?_
  ·simp only [r03_Plain.l1]
   rw [hw,if_pos (by omega),if_pos (by omega)]
  ·refine ih (out++[0]) (by rw [List.length_append,List.length_singleton];omega) ?_
   rw [show out++[0]++List.replicate d 0=out++List.replicate (d+1) 0 by rw [List.append_assoc,List.replicate_succ];rfl]
   exact h
theorem take_snoc5 {f:List Int} (h:f.length=5) (i:Nat) (hi:i<5):f.take (i+1)=f.take i++[f.getD i 0]:=by
 rw [List.take_add_one,List.getD_eq_getElem?_getD,List.getElem?_eq_getElem (by omega)]
 rfl
theorem plain_loop (l:List Int) (hn:l.length<=140737488355328) (d:Nat):∀ i:Nat,i+d=5->Ev (λk=>r03_Plain.l0 k l (trim ((ofL l).take i)) ((i+1:Nat):Int)) (trim (ofL l)):=by
 have h5:=ofL_length l
 induction d with
 | zero =>
  intro i hi
  obtain rfl:i=5:=by omega
  have e:(ofL l).take 5=ofL l:=by rw [<-h5,List.take_length]
  rw [e]
  refine Ev.step (f:=λ_=>some (trim (ofL l))) (λk=>?_) (Ev.now _)
  simp only [r03_Plain.l0]
  rw [if_neg (by omega)]
 | succ d ih =>
  intro i hi
  have hg:=getS_nat l i (by omega)
  have hgood:=good_at (good_of l) i
  have ht:=take_snoc5 h5 i (by omega)
  refine Ev.step (f:=λk=>(r03_Get.f k l ((i+1:Nat):Int)).bind λt=>if t > 0 then r03_Plain.l1 k l (trim ((ofL l).take i)) ((i+1:Nat):Int) else r03_Plain.l0 k l (trim ((ofL l).take i)) ((i+1+1:Nat):Int)) (λk=>?_) ?_
  ·simp only [r03_Plain.l0]
   rw [if_pos (by omega),ck_w (by omega)]
  ·refine Ev.bind (get_ev l _ hn) ?_
   rw [hg]
   have hi1:=ih (i+1) (by omega)
   rw [ht,trim_snoc] at hi1
   by_cases hz:(ofL l).getD i 0 > 0
   ·refine ck_if hz ?_
    have hl:(trim ((ofL l).take i)).length<=i:=Nat.le_trans (trim_le _) (by rw [List.length_take];omega)
    refine plain_pad l hn i (by omega) _ (i - (trim ((ofL l).take i)).length) _ (by omega) ?_
    have hp:=trim_pad ((ofL l).take i)
    rw [show((ofL l).take i).length=i by rw [List.length_take];omega] at hp
    rw [hp,hg]
    rw [if_neg (by omega)] at hi1
    exact hi1
   ·refine ck_else hz ?_
    rw [if_pos (by omega)] at hi1
    exact hi1
theorem plain_ev (l:List Int) (hn:l.length<=140737488355328):Ev (λk=>r03_Plain.f k l) (trim (ofL l)):=plain_loop l hn 5 0 (by omega)
theorem ck_cons {α:Type} [DecidableEq α] (x y:α) (xs ys:List α):decide (x :: xs=y :: ys)=(decide (x=y) && decide (xs=ys)):=by
 rw [Bool.eq_iff_iff]
 simp
theorem same_loop (a b:List Int) (hab:a.length=b.length) (hn:a.length<=140737488355328) (d:Nat):∀ (i:Nat),i+d=a.length->Ev (λk=>r03_Same.l0 k a b (i:Int)) (decide (a.drop i=b.drop i)):=by
 induction d with
 | zero =>
  intro i hi
  have e1:a.drop i=[]:=List.drop_eq_nil_of_le (by omega)
  have e2:b.drop i=[]:=List.drop_eq_nil_of_le (by omega)
  rw [e1,e2]
  refine Ev.step (f:=λ_=>some true) (λk=>?_) (Ev.now _)
  simp only [r03_Same.l0]
  rw [if_neg (by omega)]
 | succ d ih =>
  intro i hi
  have ha:i<a.length:=by omega
  have hb:i<b.length:=by omega
  have hw:wrap64 ((i:Int)+1)=((i+1:Nat):Int):=by unfold wrap64;omega
  have e:decide (a.drop i=b.drop i)=(decide (a[i]=b[i]) && decide (a.drop (i+1)=b.drop (i+1))):=by
   rw [List.drop_eq_getElem_cons ha,List.drop_eq_getElem_cons hb]
   exact ck_cons _ _ _ _
  rw [e]
  by_cases h:a[i]=b[i]
  ·rw [decide_eq_true h,Bool.true_and]
   refine Ev.step (f:=λk=>r03_Same.l0 k a b ((i+1:Nat):Int)) (λk=>?_) (ih (i+1) (by omega))
   simp only [r03_Same.l0]
   rw [if_pos (by omega),if_pos (by omega),if_pos (by omega),ck_rd ha,ck_rd hb,if_pos h,hw]
  ·rw [decide_eq_false h,Bool.false_and]
   refine Ev.step (f:=λ_=>some false) (λk=>?_) (Ev.now _)
   simp only [r03_Same.l0]
   rw [if_pos (by omega),if_pos (by omega),if_pos (by omega),ck_rd ha,ck_rd hb,if_neg h]
theorem same_ev (a b:List Int) (hn:a.length<=140737488355328):Ev (λk=>r03_Same.f k a b) (decide (a=b)):=by
 unfold r03_Same.f
 by_cases h:a.length=b.length
 ·have h':(a.length:Int)=(b.length:Int):=by omega
  exact ck_if h' (same_loop a b h hn a.length 0 (by omega))
 ·have h':¬ ((a.length:Int)=(b.length:Int)):=by omega
  have e:decide (a=b)=false:=decide_eq_false (λe=>h (by rw [e]))
  rw [e]
  exact ck_else h' (Ev.now _)
theorem same_yes (a:List Int) (hn:a.length<=140737488355328):Ev (λk=>r03_Same.f k a a) true:=by
 have:=same_ev a a hn
 rwa [decide_eq_true rfl] at this
end Go.Proofs.Ytjpjdipdhakjnaa.PStab
