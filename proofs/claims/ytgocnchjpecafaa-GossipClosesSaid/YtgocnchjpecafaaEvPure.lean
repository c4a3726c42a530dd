/- a part -/
import Derived.Laws.BitsAllLaws
import Derived.Test.YtgocnchjpecafaaPEvx18
import Derived.Shelf.Spec.RuneCount
namespace Go.Proofs.Ytgocnchjpecafaa.Wr
set_option linter.unusedVariables false
set_option linter.unusedSimpArgs false
def val (l:List Int):Nat:=l.foldl (λa c=>a*256+c.toNat) 0
end Go.Proofs.Ytgocnchjpecafaa.Wr
namespace Go.Proofs.Ytgocnchjpecafaa.PEv
open Go.RowKit Go.Proofs.YtgocnchjpecafaaW.PrintWords Go.Proofs.YtgocnchjpecafaaW.PrintLast Go.Proofs.Ytgocnchjpecafaa.Wr
set_option linter.unusedVariables false
set_option linter.unusedSimpArgs false
theorem wl_w64 {x:Int} (h0:-9223372036854775808<=x) (h1:x<9223372036854775808):wrap64 x=x:=by unfold wrap64;omega
end Go.Proofs.Ytgocnchjpecafaa.PEv
namespace Go.Proofs.Ytgocnchjpecafaa.PEv
open Go.RowKit Go.Proofs.YtgocnchjpecafaaW.PrintWords Go.Proofs.YtgocnchjpecafaaW.PrintLast Go.Proofs.Ytgocnchjpecafaa.Wr
set_option linter.unusedVariables false
set_option linter.unusedSimpArgs false
end Go.Proofs.Ytgocnchjpecafaa.PEv
namespace Go.Proofs.Ytgocnchjpecafaa.ClockBase
open Go.Proofs.Ytgocnchjpecafaa.Wr
set_option linter.unusedVariables false
set_option linter.unusedSimpArgs false
theorem plain_len (c:List Int):(trim (ofL c)).length<=5:=by
 have:=trim_le (ofL c)
 rwa [ofL_length] at this
theorem plain_self {c:List Int} (hk:okC c=true) (h:(trim (ofL c)).length=c.length):trim (ofL c)=c:=by
 have hp:trim (ofL c)=(ofL c).take c.length:=by
  have:trim (ofL c)=(ofL c).take (trim (ofL c)).length:=by
   unfold trim
   rw [List.length_take,Nat.min_eq_left (upto0_le _ _)]
  rw [this,h]
 rw [hp]
 unfold ofL
 rw [if_pos hk,List.take_left']
 rfl
end Go.Proofs.Ytgocnchjpecafaa.ClockBase
namespace Go.Proofs.Ytgocnchjpecafaa.PEv
open Go.RowKit Go.Proofs.YtgocnchjpecafaaW.PrintWords Go.Proofs.YtgocnchjpecafaaW.PrintLast Go.Proofs.Ytgocnchjpecafaa.ClockBase
set_option linter.unusedVariables false
set_option linter.unusedSimpArgs false
theorem ck_if {α:Type} {c:Prop} [Decidable c] {f g:Nat->Option α} {r:α} (hc:c) (h:Ev f r):Ev (λk=>if c then f k else g k) r:=Ev.congr (λk=>if_pos hc) h
theorem ck_else {α:Type} {c:Prop} [Decidable c] {f g:Nat->Option α} {r:α} (hc:¬ c) (h:Ev g r):Ev (λk=>if c then f k else g k) r:=Ev.congr (λk=>if_neg hc) h
theorem ck_rd {l:List Int} {i:Nat} (h:i<l.length):rd l (i:Int)=l[i]:=by
 unfold rd
 rw [Int.toNat_natCast,List.getD_eq_getElem?_getD,List.getElem?_eq_getElem h]
 rfl
theorem ck_w {i:Nat} (h:i<9223372036854775807):wrap64 ((i:Int)+1)=((i+1:Nat):Int):=by unfold wrap64;omega
theorem ck_may_loop (l:List Int) (hn:l.length<=140737488355328) (d:Nat):∀ (i:Nat),i+d=l.length->Ev (λk=>r03_May.l0 k l (i:Int)) (!(l.drop i).any bad && decide (l.length<=5)):=by
 induction d with
 | zero =>
  intro i hi
  have e1:l.drop i=[]:=List.drop_eq_nil_of_le (by omega)
  rw [e1]
  refine Ev.step (f:=λ_=>some (decide ((l.length:Int)<=5))) (λk=>?_) ?_
  ·simp only [r03_May.l0]
   rw [if_neg (by omega)]
  ·have e:decide ((l.length:Int)<=5)=(!([]:List Int).any bad && decide (l.length<=5)):=by
    rw [Bool.eq_iff_iff]
    simp
    omega
   rw [<-e]
   exact Ev.now _
 | succ d ih =>
  intro i hi
  have ha:i<l.length:=by omega
  rw [List.drop_eq_getElem_cons ha]
  simp only [List.any_cons]
  cases hb:bad l[i] with
  | true =>
   refine Ev.step (f:=λ_=>some false) (λk=>?_) (by simpa using Ev.now false)
   simp only [r03_May.l0]
   rw [if_pos (by omega),if_pos (by omega),ck_rd ha]
   unfold bad at hb
   simp only [Bool.or_eq_true,decide_eq_true_eq] at hb
   by_cases h0:l[i]<0
   ·rw [if_pos h0]
   ·rw [if_neg h0,if_pos (by omega)]
  | false =>
   refine Ev.step (f:=λk=>r03_May.l0 k l ((i+1:Nat):Int)) (λk=>?_) (by simpa using ih (i+1) (by omega))
   have h0:=bad_not.1 hb
   simp only [r03_May.l0]
   rw [if_pos (by omega),if_pos (by omega),ck_rd ha,if_neg (by omega),if_neg (by omega),ck_w (by omega)]
theorem may_ev (l:List Int) (hn:l.length<=140737488355328):Ev (λk=>r03_May.f k l) (okC l):=by
 have:=ck_may_loop l hn l.length 0 (by omega)
 rw [List.drop_zero] at this
 unfold okC
 rw [Bool.and_comm]
 exact this
theorem ofL_at {l:List Int} (h:okC l=true) {i:Nat} (hi:i<l.length):(ofL l).getD i 0=l[i]:=by
 unfold ofL
 rw [if_pos h,List.getD_eq_getElem?_getD,List.getElem?_append_left hi,List.getElem?_eq_getElem hi]
 rfl
theorem getS_bad {l:List Int} (h:¬ okC l=true) (rep:Int):getS l rep=0:=by
 unfold getS ofL
 rw [if_neg h]
 split
 ·rw [List.getD_eq_getElem?_getD]
  by_cases hi:(rep - 1).toNat<5
  ·rw [List.getElem?_replicate,if_pos hi]
   rfl
  ·rw [List.getElem?_replicate,if_neg hi]
   rfl
 ·rfl
theorem getS_far {l:List Int} (h:okC l=true) {rep:Int} (h1:(l.length:Int)<rep):getS l rep=0:=by
 unfold getS ofL
 rw [if_pos h]
 split
 ·rw [List.getD_eq_getElem?_getD,List.getElem?_append_right (by omega)]
  by_cases hi:(rep - 1).toNat - l.length<5 - l.length
  ·rw [List.getElem?_replicate,if_pos hi]
   rfl
  ·rw [List.getElem?_replicate,if_neg hi]
   rfl
 ·rfl
theorem get_ev (l:List Int) (rep:Int) (hn:l.length<=140737488355328):Ev (λk=>r03_Get.f k l rep) (getS l rep):=by
 unfold r03_Get.f
 refine Ev.bind (may_ev l hn) ?_
 by_cases h:okC l=true
 ·refine ck_if h ?_
  have h5:=(okC_iff.1 h).1
  by_cases h1:rep<1
  ·have e:getS l rep=0:=by unfold getS;rw [if_neg (by omega)]
   rw [e]
   exact ck_if h1 (Ev.now _)
  ·refine ck_else h1 ?_
   by_cases h2:rep > (l.length:Int)
   ·rw [getS_far h h2]
    exact ck_if h2 (Ev.now _)
   ·refine ck_else h2 ?_
    have hw:wrap64 (rep - 1)=(((rep - 1).toNat:Nat):Int):=by unfold wrap64;omega
    have hi:(rep - 1).toNat<l.length:=by omega
    rw [hw]
    refine ck_if (by omega) (ck_if (by omega) ?_)
    have e:getS l rep=rd l (((rep - 1).toNat:Nat):Int):=by
     unfold getS
     rw [if_pos (by omega),ofL_at h hi,ck_rd hi]
    rw [<-e]
    exact Ev.now _
 ·refine ck_else h ?_
  rw [getS_bad h]
  exact Ev.now _
theorem getS_nat (l:List Int) (i:Nat) (hi:i<5):getS l ((i+1:Nat):Int)=(ofL l).getD i 0:=by
 unfold getS
 rw [if_pos (by omega)]
 congr 1
 omega
theorem plain_pad (l:List Int) (hn:l.length<=140737488355328) (i:Nat) (hi:i<5) (r:List Int) (d:Nat):∀ out:List Int,out.length+d=i ->
  Ev (λk=>r03_Plain.l0 k l (out++List.replicate d 0++[getS l ((i+1:Nat):Int)]) ((i+1+1:Nat):Int)) r->Ev (λk=>r03_Plain.l1 k l out ((i+1:Nat):Int)) r:=by
 have hw:wrap64 (((i+1:Nat):Int) - 1)=(i:Int):=by unfold wrap64;omega
 induction d with
 | zero =>
  intro out ho h
  rw [List.replicate_zero,List.append_nil] at h
  refine Ev.step (f:=λk=>(r03_Get.f k l ((i+1:Nat):Int)).bind λt=>if out.length<17592186044416 then r03_Plain.l0 k l (out++[t]) ((i+1+1:Nat):Int) else none) (λk=>?_) ?_
  ·simp only [r03_Plain.l1]
   rw [hw,if_neg (by omega),ck_w (by omega)]
  ·refine Ev.bind (get_ev l _ hn) ?_
   exact ck_if (by omega) h
 | succ d ih =>
  intro out ho h
  refine Ev.step (f:=λk=>r03_Plain.l1 k l (out++[0]) ((i+1:Nat):Int)) (λk=>?_) ?_
  ·simp only [r03_Plain.l1]
   rw [hw,if_pos (by omega),if_pos (by omega)]
  ·refine ih (out++[0]) (by rw [List.length_append,List.length_singleton];omega) ?_
   rw [show out++[0]++List.replicate d 0=out++List.replicate (d+1) 0 by rw [List.append_assoc,List.replicate_succ];rfl]
   exact h
theorem take_snoc5 {f:List Int} (h:f.length=5) (i:Nat) (hi:i<5):f.take (i+1)=f.take i++[f.getD i 0]:=by
 rw [List.take_add_one,List.getD_eq_getElem?_getD,List.getElem?_eq_getElem (by omega)]
 rfl
theorem plain_loop (l:List Int) (hn:l.length<=140737488355328) (d:Nat):∀ i:Nat,i+d=5->Ev (λk=>r03_Plain.l0 k l (trim ((ofL l).take i)) ((i+1:Nat):Int)) (trim (ofL l)):=by
 have h5:=ofL_length l
 induction d with
 | zero =>
  intro i hi
  obtain rfl:i=5:=by omega
  have e:(ofL l).take 5=ofL l:=by rw [<-h5,List.take_length]
  rw [e]
  refine Ev.step (f:=λ_=>some (trim (ofL l))) (λk=>?_) (Ev.now _)
  simp only [r03_Plain.l0]
  rw [if_neg (by omega)]
 | succ d ih =>
  intro i hi
  have hg:=getS_nat l i (by omega)
  have hgood:=good_at (good_of l) i
  have ht:=take_snoc5 h5 i (by omega)
  refine Ev.step (f:=λk=>(r03_Get.f k l ((i+1:Nat):Int)).bind λt=>if t > 0 then r03_Plain.l1 k l (trim ((ofL l).take i)) ((i+1:Nat):Int) else r03_Plain.l0 k l (trim ((ofL l).take i)) ((i+1+1:Nat):Int)) (λk=>?_) ?_
  ·simp only [r03_Plain.l0]
   rw [if_pos (by omega),ck_w (by omega)]
  ·refine Ev.bind (get_ev l _ hn) ?_
   rw [hg]
   have hi1:=ih (i+1) (by omega)
   rw [ht,trim_snoc] at hi1
   by_cases hz:(ofL l).getD i 0 > 0
   ·refine ck_if hz ?_
    have hl:(trim ((ofL l).take i)).length<=i:=Nat.le_trans (trim_le _) (by rw [List.length_take];omega)
    refine plain_pad l hn i (by omega) _ (i - (trim ((ofL l).take i)).length) _ (by omega) ?_
    have hp:=trim_pad ((ofL l).take i)
    rw [show((ofL l).take i).length=i by rw [List.length_take];omega] at hp
    rw [hp,hg]
    rw [if_neg (by omega)] at hi1
    exact hi1
   ·refine ck_else hz ?_
    rw [if_pos (by omega)] at hi1
    exact hi1
theorem plain_ev (l:List Int) (hn:l.length<=140737488355328):Ev (λk=>r03_Plain.f k l) (trim (ofL l)):=plain_loop l hn 5 0 (by omega)
theorem ck_cons {α:Type} [DecidableEq α] (x y:α) (xs ys:List α):decide (x :: xs=y :: ys)=(decide (x=y) && decide (xs=ys)):=by
 rw [Bool.eq_iff_iff]
 simp
theorem same_loop (a b:List Int) (hab:a.length=b.length) (hn:a.length<=140737488355328) (d:Nat):∀ (i:Nat),i+d=a.length->Ev (λk=>r03_Same.l0 k a b (i:Int)) (decide (a.drop i=b.drop i)):=by
 induction d with
 | zero =>
  intro i hi
  have e1:a.drop i=[]:=List.drop_eq_nil_of_le (by omega)
  have e2:b.drop i=[]:=List.drop_eq_nil_of_le (by omega)
  rw [e1,e2]
  refine Ev.step (f:=λ_=>some true) (λk=>?_) (Ev.now _)
  simp only [r03_Same.l0]
  rw [if_neg (by omega)]
 | succ d ih =>
  intro i hi
  have ha:i<a.length:=by omega
  have hb:i<b.length:=by omega
  have hw:wrap64 ((i:Int)+1)=((i+1:Nat):Int):=by unfold wrap64;omega
  have e:decide (a.drop i=b.drop i)=(decide (a[i]=b[i]) && decide (a.drop (i+1)=b.drop (i+1))):=by
   rw [List.drop_eq_getElem_cons ha,List.drop_eq_getElem_cons hb]
   exact ck_cons _ _ _ _
  rw [e]
  by_cases h:a[i]=b[i]
  ·rw [decide_eq_true h,Bool.true_and]
   refine Ev.step (f:=λk=>r03_Same.l0 k a b ((i+1:Nat):Int)) (λk=>?_) (ih (i+1) (by omega))
   simp only [r03_Same.l0]
   rw [if_pos (by omega),if_pos (by omega),if_pos (by omega),ck_rd ha,ck_rd hb,if_pos h,hw]
  ·rw [decide_eq_false h,Bool.false_and]
   refine Ev.step (f:=λ_=>some false) (λk=>?_) (Ev.now _)
   simp only [r03_Same.l0]
   rw [if_pos (by omega),if_pos (by omega),if_pos (by omega),ck_rd ha,ck_rd hb,if_neg h]
theorem same_ev (a b:List Int) (hn:a.length<=140737488355328):Ev (λk=>r03_Same.f k a b) (decide (a=b)):=by
 unfold r03_Same.f
 by_cases h:a.length=b.length
 ·have h':(a.length:Int)=(b.length:Int):=by omega
  exact ck_if h' (same_loop a b h hn a.length 0 (by omega))
 ·have h':¬ ((a.length:Int)=(b.length:Int)):=by omega
  have e:decide (a=b)=false:=decide_eq_false (λe=>h (by rw [e]))
  rw [e]
  exact ck_else h' (Ev.now _)
end Go.Proofs.Ytgocnchjpecafaa.PEv
namespace Go.Proofs.Ytgocnchjpecafaa.PEv
open Go.RowKit Go.Proofs.YtgocnchjpecafaaW.PrintWords Go.Proofs.YtgocnchjpecafaaW.PrintLast Go.Proofs.Ytgocnchjpecafaa.ClockBase Go.Proofs.Ytgocnchjpecafaa.Wr
set_option linter.unusedVariables false
set_option linter.unusedSimpArgs false
end Go.Proofs.Ytgocnchjpecafaa.PEv
namespace Go.Proofs.Ytgocnchjpecafaa.PEv
open Go.RowKit Go.Proofs.YtgocnchjpecafaaW.PrintWords Go.Proofs.YtgocnchjpecafaaW.PrintLast Go.Proofs.Ytgocnchjpecafaa.ClockBase
set_option linter.unusedVariables false
set_option linter.unusedSimpArgs false
def OkEff (x:S48):Prop:=x.f2.toList≠[]/\(x.f2.size:Int)<=32/\0<=x.f1/\x.f1<=15 /\
 ((x.f0=1\/x.f0=2)/\x.f3=0/\x.f4=0/\x.f5.toList=[]\/(x.f0=3\/x.f0=4)/\1<=x.f3/\x.f3<=1000/\x.f4=0/\x.f5.toList=[] \/
 x.f0=5/\1<=x.f3/\x.f3<=1000/\1<=x.f4/\x.f4<=5/\x.f5.toList=[]\/x.f0=6/\x.f3=0/\x.f4=0/\(x.f5.size:Int)<=64)
instance (x:S48):Decidable (OkEff x):=by unfold OkEff;infer_instance
theorem checkEff_eq' (x:S48) (k:Nat) (P:Prop) [Decidable P] (hP:P↔x.f2.toList≠[]/\(x.f2.size:Int)<=32/\0<=x.f1/\x.f1<=15 /\
 ((x.f0=1\/x.f0=2)/\x.f3=0/\x.f4=0/\x.f5.toList=[]\/(x.f0=3\/x.f0=4)/\1<=x.f3/\x.f3<=1000/\x.f4=0/\x.f5.toList=[] \/
 x.f0=5/\1<=x.f3/\x.f3<=1000/\1<=x.f4/\x.f4<=5/\x.f5.toList=[]\/x.f0=6/\x.f3=0/\x.f4=0/\(x.f5.size:Int)<=64)) :
  event_CheckEffect.f (k+4) x.f0 x.f1 x.f2 x.f3 x.f4 x.f5=some (if P then 0 else 1):=by
 simp only [event_CheckEffect.f,event_CheckEffect.j0,event_CheckEffect.j1,event_CheckEffect.j2,event_CheckEffect.j3]
 by_cases h1:x.f2.toList=[]
 ·have hn:¬ P:=λh=>(hP.1 h).1 h1
  simp [h1,hn]
 by_cases h2:(x.f2.size:Int) > 32
 ·rw [if_neg h1,if_pos h2,if_pos trivial,if_neg (λh=>by have:=(hP.1 h).2.1;omega)]
 by_cases h3:x.f1<0
 ·rw [if_neg h1,if_neg h2,if_pos h3,if_pos trivial,if_neg (λh=>by have:=(hP.1 h).2.2.1;omega)]
 by_cases h4:x.f1 > 15
 ·rw [if_neg h1,if_neg h2,if_neg h3,if_pos (by simpa using h4),if_neg (λh=>by have:=(hP.1 h).2.2.2.1;omega)]
 rw [if_neg h1,if_neg h2,if_neg h3,if_neg (by simpa using h4)]
 have a2:(x.f2.size:Int)<=32:=by omega
 have a3:0<=x.f1:=by omega
 have a4:x.f1<=15:=by omega
 simp only [ne_eq,h1,not_false_eq_true,a2,a3,a4,true_and] at hP
 clear h1 h2 h3 h4 a2 a3 a4
 generalize x.f0=a at *
 generalize x.f3=n at *
 generalize x.f4=t at *
 generalize x.f5=s at *
 by_cases e1:a=1
 ·subst e1;by_cases b1:n=0<;>by_cases b2:t=0<;>by_cases b3:s.toList=[]<;>simp [hP,b1,b2,b3]
 by_cases e2:a=2
 ·subst e2;by_cases b1:n=0<;>by_cases b2:t=0<;>by_cases b3:s.toList=[]<;>simp [hP,b1,b2,b3]
 by_cases e3:a=3
 ·subst e3;by_cases b1:n>=1<;>by_cases b0:n<=1000<;>by_cases b2:t=0<;>by_cases b3:s.toList=[]<;>simp [hP,b0,b1,b2,b3]
 by_cases e4:a=4
 ·subst e4;by_cases b1:n>=1<;>by_cases b0:n<=1000<;>by_cases b2:t=0<;>by_cases b3:s.toList=[]<;>simp [hP,b0,b1,b2,b3]
 by_cases e5:a=5
 ·subst e5;by_cases b1:n>=1<;>by_cases b0:n<=1000<;>by_cases b2:t>=1<;>by_cases b4:t<=5<;>by_cases b3:s.toList=[]<;>simp [hP,b0,b1,b2,b3,b4]
 by_cases e6:a=6
 ·subst e6;by_cases b1:n=0<;>by_cases b2:t=0<;>by_cases b3:(s.size:Int)<=64<;>simp [hP,b1,b2,b3]
 ·by_cases b1:n>=1<;>simp [hP,e1,e2,e3,e4,e5,e6]
theorem checkEff_eq (x:S48) (k:Nat):event_CheckEffect.f (k+4) x.f0 x.f1 x.f2 x.f3 x.f4 x.f5=some (if OkEff x then 0 else 1):=checkEff_eq' x k (OkEff x) Iff.rfl
theorem checkEff_ev (x:S48):Ev (λk=>event_CheckEffect.f k x.f0 x.f1 x.f2 x.f3 x.f4 x.f5) (if OkEff x then 0 else 1):=⟨4,λk hk=>by
 obtain ⟨m,rfl⟩:∃ m,k=m+4:=⟨k - 4,by omega⟩
 exact checkEff_eq x m⟩
end Go.Proofs.Ytgocnchjpecafaa.PEv
namespace Go.Proofs.Ytgocnchjpecafaa.PEv
open Go.RowKit Go.Proofs.YtgocnchjpecafaaW.PrintWords Go.Proofs.YtgocnchjpecafaaW.PrintLast Go.Proofs.Ytgocnchjpecafaa.ClockBase Go.Proofs.Ytgocnchjpecafaa.Wr
set_option linter.unusedVariables false
set_option linter.unusedSimpArgs false
def OkEv (a b:Int) (past:List Int) (es:List S48):Prop:=1<=a/\a<=5/\1<=b/\b<=1048576/\okC past=true/\(trim (ofL past)).length=past.length/\getS past a=b - 1/\1<=es.length/\es.length<=16/\∀ x ∈ es,OkEff x
instance (a b:Int) (past:List Int) (es:List S48):Decidable (OkEv a b past es):=by unfold OkEv;infer_instance
end Go.Proofs.Ytgocnchjpecafaa.PEv
namespace Go.Proofs.Ytgocnchjpecafaa.PEv
open Go.RowKit Go.Proofs.YtgocnchjpecafaaW.PrintWords Go.Proofs.YtgocnchjpecafaaW.PrintLast Go.Proofs.Ytgocnchjpecafaa.ClockBase Go.Proofs.Ytgocnchjpecafaa.Wr
set_option linter.unusedVariables false
set_option linter.unusedSimpArgs false
end Go.Proofs.Ytgocnchjpecafaa.PEv
namespace Go.Proofs.Ytgocnchjpecafaa.PEv
open Go.RowKit Go.Proofs.YtgocnchjpecafaaW.PrintWords Go.Proofs.YtgocnchjpecafaaW.PrintLast Go.Proofs.Ytgocnchjpecafaa.ClockBase Go.Proofs.Ytgocnchjpecafaa.Wr
set_option linter.unusedVariables false
set_option linter.unusedSimpArgs false
theorem ev_is {α:Type} {o:Option α} {r:α} (h:o=some r):Ev (λ_=>o) r:=h ▸ Ev.now r
theorem any_ev:∀ (l:List S48),Ev (λk=>event_Check.any k l) (!l.all λx=>decide (OkEff x))
 | []=>Ev.now _
 | x :: l=>by
  refine Ev.congr (f:=λk=>(event_CheckEffect.f k x.f0 x.f1 x.f2 x.f3 x.f4 x.f5).bind λt=>if t=0 then event_Check.any k l else some true) (λk=>rfl) ?_
  refine Ev.bind (checkEff_ev x) ?_
  by_cases h:OkEff x
  ·refine ck_if (if_pos h) ?_
   have e:(!(x :: l).all λx=>decide (OkEff x)) = !l.all λx=>decide (OkEff x):=by rw [List.all_cons,decide_eq_true h,Bool.true_and]
   rw [e]
   exact any_ev l
  ·refine ck_else (by rw [if_neg h];decide) ?_
   have e:(!(x :: l).all λx=>decide (OkEff x))=true:=by rw [List.all_cons,decide_eq_false h,Bool.false_and];rfl
   rw [e]
   exact Ev.now _
theorem dotMay_eq (a b:Int):dots_May.f a b=some (decide (1<=a/\a<=5/\1<=b/\b<=1048576)):=by
 unfold dots_May.f
 by_cases h1:a>=1
 ·rw [if_pos h1]
  by_cases h2:a<=5
  ·rw [if_pos h2]
   by_cases h3:b>=1
   ·rw [if_pos h3]
    congr 1
    rw [decide_eq_decide]
    omega
   ·rw [if_neg h3,decide_eq_false (by omega)]
  ·rw [if_neg h2,decide_eq_false (by omega)]
 ·rw [if_neg h1,decide_eq_false (by omega)]
theorem evCheck_ev (a b:Int) (past:List Int) (es:List S48):Ev (λk=>event_Check.f k a b past es) (if OkEv a b past es then 0 else 1):=by
 unfold event_Check.f
 refine Ev.bind (ev_is (dotMay_eq a b)) ?_
 by_cases h1:1<=a/\a<=5/\1<=b/\b<=1048576
 rotate_left
 ·rw [if_neg (λh:OkEv a b past es=>h1 ⟨h.1,h.2.1,h.2.2.1,h.2.2.2.1⟩)]
  exact ck_else (by rw [decide_eq_false h1];decide) (Ev.now _)
 refine ck_if (decide_eq_true h1) ?_
 by_cases h2:okC past=true
 rotate_left
 ·rw [if_neg (λh:OkEv a b past es=>h2 h.2.2.2.2.1)]
  exact ck_else h2 (Ev.now _)
 refine ck_if h2 ?_
 by_cases h3:(trim (ofL past)).length=past.length
 rotate_left
 ·rw [if_neg (λh:OkEv a b past es=>h3 h.2.2.2.2.2.1)]
  exact ck_else h3 (Ev.now _)
 refine ck_if h3 ?_
 rw [wl_w64 (show -9223372036854775808<=b - 1 by omega) (by omega)]
 by_cases h4:getS past a=b - 1
 rotate_left
 ·rw [if_neg (λh:OkEv a b past es=>h4 h.2.2.2.2.2.2.1)]
  exact ck_else h4 (Ev.now _)
 refine ck_if h4 ?_
 by_cases h5:es.length<1
 ·rw [if_neg (λh:OkEv a b past es=>by have:=h.2.2.2.2.2.2.2.1;omega)]
  exact ck_if h5 (Ev.now _)
 refine ck_else h5 ?_
 by_cases h6:es.length > 16
 ·rw [if_neg (λh:OkEv a b past es=>by have:=h.2.2.2.2.2.2.2.2.1;omega)]
  exact ck_if h6 (Ev.now _)
 refine ck_else h6 ?_
 refine Ev.bind (any_ev es) ?_
 by_cases h7:∀ x ∈ es,OkEff x
 ·rw [if_pos (show OkEv a b past es from ⟨h1.1,h1.2.1,h1.2.2.1,h1.2.2.2,h2,h3,h4,by omega,by omega,h7⟩)]
  refine ck_else ?_ (Ev.now _)
  have:(es.all λx=>decide (OkEff x))=true:=List.all_eq_true.mpr λx hx=>decide_eq_true (h7 x hx)
  rw [this];decide
 ·rw [if_neg (λh:OkEv a b past es=>h7 h.2.2.2.2.2.2.2.2.2)]
  refine ck_if ?_ (Ev.now _)
  have:¬ (es.all λx=>decide (OkEff x))=true:=λh=>h7 λx hx=>of_decide_eq_true (List.all_eq_true.mp h x hx)
  rw [Bool.eq_false_iff.mpr this];rfl
end Go.Proofs.Ytgocnchjpecafaa.PEv
namespace Go.Proofs.Ytgocnchjpecafaa.PEv
open Go.RowKit Go.Proofs.YtgocnchjpecafaaW.PrintWords Go.Proofs.YtgocnchjpecafaaW.PrintLast Go.Proofs.Ytgocnchjpecafaa.ClockBase
set_option linter.unusedVariables false
set_option linter.unusedSimpArgs false
theorem mayEff_eq' (x:S48) (k:Nat) (P:Prop) [Decidable P] (hP:P↔x.f2.toList≠[]/\(x.f2.size:Int)<=32/\0<=x.f1/\x.f1<=15 /\
 ((x.f0=1\/x.f0=2)/\x.f3=0/\x.f4=0/\x.f5.toList=[]\/(x.f0=3\/x.f0=4)/\1<=x.f3/\x.f3<=1000/\x.f4=0/\x.f5.toList=[] \/
 x.f0=5/\1<=x.f3/\x.f3<=1000/\1<=x.f4/\x.f4<=5/\x.f5.toList=[]\/x.f0=6/\x.f3=0/\x.f4=0/\(x.f5.size:Int)<=64)) :
  r05_MayEffect.f (k+4) x.f0 x.f1 x.f2 x.f3 x.f4 x.f5=some (decide P):=by
 simp only [r05_MayEffect.f,r05_MayEffect.j0,r05_MayEffect.j1,r05_MayEffect.j2]
 by_cases h1:x.f2.toList=[]
 ·have hn:¬ P:=λh=>(hP.1 h).1 h1
  simp [h1,hn]
 by_cases h2:(x.f2.size:Int) > 32
 ·rw [if_neg h1,if_pos h2,if_pos trivial,decide_eq_false (λh=>by have:=(hP.1 h).2.1;omega)]
 by_cases h3:x.f1<0
 ·rw [if_neg h1,if_neg h2,if_pos h3,if_pos trivial,decide_eq_false (λh=>by have:=(hP.1 h).2.2.1;omega)]
 by_cases h4:x.f1 > 15
 ·rw [if_neg h1,if_neg h2,if_neg h3,if_pos h4,if_pos trivial,decide_eq_false (λh=>by have:=(hP.1 h).2.2.2.1;omega)]
 rw [if_neg h1,if_neg h2,if_neg h3,if_neg h4]
 have a2:(x.f2.size:Int)<=32:=by omega
 have a3:0<=x.f1:=by omega
 have a4:x.f1<=15:=by omega
 simp only [ne_eq,h1,not_false_eq_true,a2,a3,a4,true_and] at hP
 clear h1 h2 h3 h4 a2 a3 a4
 have hs:x.f5.toList=[]->(x.f5.size:Int)<=64:=λh=>by
  have:=congrArg List.length h
  rw [ByteArray.toList_eq,data_length,List.length_nil] at this
  omega
 generalize x.f0=a at *
 generalize x.f3=n at *
 generalize x.f4=t at *
 generalize x.f5=s at *
 by_cases e1:a=1
 ·subst e1;by_cases b1:n=0<;>by_cases b2:t=0<;>by_cases b3:s.toList=[]<;>simp [hP,b1,b2,b3]
 by_cases e2:a=2
 ·subst e2;by_cases b1:n=0<;>by_cases b2:t=0<;>by_cases b3:s.toList=[]<;>simp [hP,b1,b2,b3]
 by_cases e3:a=3
 ·subst e3;by_cases b1:n<1<;>by_cases b0:n > 1000<;>by_cases b2:t=0<;>by_cases b3:s.toList=[]<;>simp [hP,b0,b1,b2,b3]<;>omega
 by_cases e4:a=4
 ·subst e4;by_cases b1:n<1<;>by_cases b0:n > 1000<;>by_cases b2:t=0<;>by_cases b3:s.toList=[]<;>simp [hP,b0,b1,b2,b3]<;>omega
 by_cases e5:a=5
 ·subst e5;by_cases b1:n<1<;>by_cases b0:n > 1000<;>by_cases b2:t<1<;>by_cases b4:t > 5<;>by_cases b3:s.toList=[]<;>simp [hP,b0,b1,b2,b3,b4]<;>omega
 by_cases e6:a=6
 ·subst e6
  by_cases b1:n=0<;>by_cases b2:t=0<;>by_cases b3:s.toList=[]
  ·have:=hs b3
   simp [hP,b1,b2,b3,this]
  all_goals simp [hP,b1,b2,b3]
 ·by_cases b0:a<1
  ·simp [hP,b0,e1,e2,e3,e4,e5,e6]
  ·have b9:a > 6:=by omega
   simp [hP,b0,b9,e1,e2,e3,e4,e5,e6]
theorem mayEff_ev (x:S48):Ev (λk=>r05_MayEffect.f k x.f0 x.f1 x.f2 x.f3 x.f4 x.f5) (decide (OkEff x)):=⟨4,λk hk=>by
 obtain ⟨m,rfl⟩:∃ m,k=m+4:=⟨k - 4,by omega⟩
 exact mayEff_eq' x m (OkEff x) Iff.rfl⟩
end Go.Proofs.Ytgocnchjpecafaa.PEv
namespace Go.Proofs.Ytgocnchjpecafaa.PEv
open Go.RowKit Go.Proofs.YtgocnchjpecafaaW.PrintWords Go.Proofs.YtgocnchjpecafaaW.PrintLast Go.Proofs.Ytgocnchjpecafaa.ClockBase Go.Proofs.Ytgocnchjpecafaa.Wr
set_option linter.unusedVariables false
set_option linter.unusedSimpArgs false
theorem dotMay04_eq (a b:Int):r04_May.f a b=some (decide (1<=a/\a<=5/\1<=b/\b<=1048576)):=by
 unfold r04_May.f
 by_cases h1:a>=1
 ·rw [if_pos h1]
  by_cases h2:a<=5
  ·rw [if_pos h2]
   by_cases h3:b>=1
   ·rw [if_pos h3]
    congr 1
    rw [decide_eq_decide]
    omega
   ·rw [if_neg h3,decide_eq_false (by omega)]
  ·rw [if_neg h2,decide_eq_false (by omega)]
 ·rw [if_neg h1,decide_eq_false (by omega)]
theorem rdT_at {l:List S48} {i:Nat} (h:i<l.length):rd_T48 l (i:Int)=l[i]:=by
 unfold rd_T48
 rw [List.getD_eq_getElem?_getD,Int.toNat_natCast,List.getElem?_eq_getElem h,Option.getD_some]
theorem refMay_loop (a b:Int) (past:List Int) (es:List S48) (hn:es.length<=140737488355328) (d:Nat):∀ (i:Nat),i+d=es.length->Ev (λk=>r05_May.l0 k (i:Int) a b past es) (((es.drop i).all λx=>decide (OkEff x)) && decide (1<=es.length/\es.length<=16)):=by
 induction d with
 | zero =>
  intro i hi
  rw [List.drop_eq_nil_of_le (by omega)]
  refine Ev.step (f:=λ_=>some (decide (1<=es.length/\es.length<=16))) (λk=>?_) (ev_is ?_)
  ·simp only [r05_May.l0]
   rw [if_neg (by omega)]
   by_cases h:(es.length:Int)>=1
   ·rw [if_pos h]
    congr 1
    rw [decide_eq_decide]
    omega
   ·rw [if_neg h,decide_eq_false (by omega)]
  ·simp
 | succ d ih =>
  intro i hi
  have hlt:i<es.length:=by omega
  rw [List.drop_eq_getElem_cons hlt]
  refine Ev.step (f:=λk=>(r05_MayEffect.f k (es[i]).f0 (es[i]).f1 (es[i]).f2 (es[i]).f3 (es[i]).f4 (es[i]).f5).bind λt=>(if t=true then(r05_May.l0 k ((i+1:Nat):Int) a b past es) else(some false))) (λk=>?_) ?_
  ·simp only [r05_May.l0]
   rw [if_pos (by omega),if_pos (by omega),rdT_at hlt,ck_w (by omega)]
  ·refine Ev.bind (mayEff_ev _) ?_
   rw [List.all_cons]
   by_cases h:OkEff es[i]
   ·refine ck_if (decide_eq_true h) ?_
    rw [decide_eq_true h,Bool.true_and]
    exact ih (i+1) (by omega)
   ·refine ck_else (by rw [decide_eq_false h];decide) ?_
    rw [decide_eq_false h,Bool.false_and,Bool.false_and]
    exact Ev.now _
theorem getS_in (l:List Int) {a:Int} (h1:1<=a) (h2:a<=5):0<=getS l a/\getS l a<=1048576:=by
 obtain ⟨i,hi,rfl⟩:∃ i:Nat,i<5/\a=((i+1:Nat):Int):=⟨(a - 1).toNat,by omega,by omega⟩
 rw [getS_nat l i hi]
 exact good_at (good_of l) i
theorem refMay_no (a b:Int) (past:List Int) (es:List S48):Ev (λk=>r05_May.j0 k true a b past es) false:=Ev.step (f:=λ_=>some false) (λk=>rfl) (Ev.now _)
theorem refMay_ev (a b:Int) (past:List Int) (es:List S48) (hp:past.length<=140737488355328) (hn:es.length<=140737488355328):Ev (λk=>r05_May.f k a b past es) (decide (OkEv a b past es)):=by
 unfold r05_May.f
 refine Ev.bind (ev_is (dotMay04_eq a b)) ?_
 by_cases h1:1<=a/\a<=5/\1<=b/\b<=1048576
 rotate_left
 ·rw [decide_eq_false (λh:OkEv a b past es=>h1 ⟨h.1,h.2.1,h.2.2.1,h.2.2.2.1⟩)]
  exact ck_else (by rw [decide_eq_false h1];decide) (refMay_no _ _ _ _)
 refine ck_if (decide_eq_true h1) ?_
 refine Ev.bind (may_ev past hp) ?_
 by_cases h2:okC past=true
 rotate_left
 ·rw [decide_eq_false (λh:OkEv a b past es=>h2 h.2.2.2.2.1)]
  exact ck_else h2 (refMay_no _ _ _ _)
 refine ck_if h2 ?_
 refine Ev.bind (plain_ev past hp) ?_
 refine Ev.bind (same_ev _ past (by have:=plain_len past;omega)) ?_
 by_cases h3:(trim (ofL past)).length=past.length
 rotate_left
 ·rw [decide_eq_false (λh:OkEv a b past es=>h3 h.2.2.2.2.2.1)]
  exact ck_else (by rw [decide_eq_false (λh=>h3 (by rw [h]))];decide) (refMay_no _ _ _ _)
 refine ck_if (decide_eq_true (plain_self h2 h3)) ?_
 refine Ev.bind (get_ev past a hp) ?_
 have hg:=getS_in past h1.1 h1.2.1
 rw [wl_w64 (by omega) (by omega)]
 by_cases h4:getS past a=b - 1
 rotate_left
 ·rw [decide_eq_false (λh:OkEv a b past es=>h4 h.2.2.2.2.2.2.1)]
  have e:(getS past a+1 != b)=true:=by rw [bne_iff_ne];omega
  rw [e]
  exact refMay_no _ _ _ _
 have e:(getS past a+1 != b)=false:=by rw [bne_eq_false_iff_eq];omega
 rw [e]
 refine Ev.step (f:=λk=>r05_May.l0 k 0 a b past es) (λk=>rfl) ?_
 have h:=refMay_loop a b past es hn es.length 0 (by omega)
 rw [List.drop_zero] at h
 have e:decide (OkEv a b past es)=((es.all λx=>decide (OkEff x)) && decide (1<=es.length/\es.length<=16)):=by
  rw [Bool.eq_iff_iff,decide_eq_true_iff,Bool.and_eq_true,decide_eq_true_iff,List.all_eq_true]
  exact ⟨λh=>⟨λx hx=>decide_eq_true (h.2.2.2.2.2.2.2.2.2 x hx),h.2.2.2.2.2.2.2.1,h.2.2.2.2.2.2.2.2.1⟩,λh=>⟨h1.1,h1.2.1,h1.2.2.1,h1.2.2.2,h2,h3,h4,h.2.1,h.2.2,λx hx=>of_decide_eq_true (h.1 x hx)⟩⟩
 rw [e]
 exact h
end Go.Proofs.Ytgocnchjpecafaa.PEv
namespace Go.Proofs.Ytgocnchjpecafaa.PEv
open Go.RowKit Go.Proofs.YtgocnchjpecafaaW.PrintWords Go.Proofs.YtgocnchjpecafaaW.PrintLast Go.Proofs.Ytgocnchjpecafaa.ClockBase Go.Proofs.Ytgocnchjpecafaa.Wr
end Go.Proofs.Ytgocnchjpecafaa.PEv
