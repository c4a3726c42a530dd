/- a part -/
import Derived.Test.YtjpjdipdhakjnaaClockRef
import Derived.Test.YtjpjdipdhakjnaaPStabx6
import Derived.Test.YtjpjdipdhakjnaaPStabx8
namespace Go.Proofs.Ytjpjdipdhakjnaa.PStab
open Go.RowKit Go.Proofs.YtjpjdipdhakjnaaW.PrintWords Go.Proofs.YtjpjdipdhakjnaaW.PrintLast Go.Proofs.Ytjpjdipdhakjnaa.ClockBase
set_option linter.unusedVariables false
set_option linter.unusedSimpArgs false
def leF (a b:List Int):Nat->Nat->Bool
 | 0,_=>true
 | d+1,i=>decide (a.getD i 0<=b.getD i 0) && leF a b d (i+1)
theorem within_loop (a b:List Int) (ha:a.length<=140737488355328) (hb:b.length<=140737488355328) (d:Nat):∀ i:Nat,i+d=5->Ev (λk=>r03_Within.l0 k a b ((i+1:Nat):Int)) (leF (ofL a) (ofL b) d i):=by
 induction d with
 | zero =>
  intro i hi
  refine Ev.step (f:=λ_=>some true) (λk=>?_) (Ev.now _)
  simp only [r03_Within.l0]
  rw [if_neg (by omega)]
 | succ d ih =>
  intro i hi
  refine Ev.step (f:=λk=>(r03_Get.f k a ((i+1:Nat):Int)).bind λt=>(r03_Get.f k b ((i+1:Nat):Int)).bind λu=>if t > u then some false else r03_Within.l0 k a b ((i+1+1:Nat):Int)) (λk=>?_) ?_
  ·simp only [r03_Within.l0]
   rw [if_pos (by omega),ck_w (by omega)]
  ·refine Ev.bind (get_ev a _ ha) (Ev.bind (get_ev b _ hb) ?_)
   rw [getS_nat a i (by omega),getS_nat b i (by omega)]
   unfold leF
   by_cases h:(ofL a).getD i 0 > (ofL b).getD i 0
   ·rw [decide_eq_false (by omega),Bool.false_and]
    exact ck_if h (Ev.now _)
   ·rw [decide_eq_true (by omega),Bool.true_and]
    exact ck_else h (ih (i+1) (by omega))
theorem within_ev (a b:List Int) (ha:a.length<=140737488355328) (hb:b.length<=140737488355328):Ev (λk=>r03_Within.f k a b) (withinS a b):=by
 have h:=within_loop a b ha hb 5 0 (by omega)
 have e:withinS a b=leF (ofL a) (ofL b) 5 0:=by
  simp [withinS,leF,List.range,List.range.loop]
 rw [e]
 exact h
theorem plain_good {f:List Int} (h:GoodC f):Ev (λk=>r03_Plain.f k f) (trim f):=by
 have:=plain_ev f (by rw [h.1];decide)
 rwa [ofL_good h] at this
theorem take_five {f:List Int} (h:f.length=5):f.take 5=f:=by rw [<-h,List.take_length]
theorem join_loop (a b:List Int) (ha:a.length<=140737488355328) (hb:b.length<=140737488355328) (d:Nat):∀ i:Nat,i+d=5->Ev (λk=>r03_Join.l0 k a b ((List.zipWith greater (ofL a) (ofL b)).take i) ((i+1:Nat):Int)) (trim (List.zipWith greater (ofL a) (ofL b))):=by
 have hz:=good_greater (good_of a) (good_of b)
 induction d with
 | zero =>
  intro i hi
  obtain rfl:i=5:=by omega
  rw [take_five hz.1]
  refine Ev.step (f:=λk=>(r03_Plain.f k (List.zipWith greater (ofL a) (ofL b))).bind λt=>some t) (λk=>?_) (Ev.bind (plain_good hz) (Ev.now _))
  simp only [r03_Join.l0]
  rw [if_neg (by omega)]
 | succ d ih =>
  intro i hi
  have hl:((List.zipWith greater (ofL a) (ofL b)).take i).length<17592186044416:=by rw [List.length_take,hz.1];omega
  have hn:=ih (i+1) (by omega)
  rw [take_snoc5 hz.1 i (by omega),zip5 (ofL_length a) (ofL_length b) i (by omega)] at hn
  have hxa:=getS_nat a i (by omega)
  have hxb:=getS_nat b i (by omega)
  have ga:=get_ev a ((i+1:Nat):Int) ha
  have gb:=get_ev b ((i+1:Nat):Int) hb
  rw [hxa] at ga
  rw [hxb] at gb
  unfold greater at hn
  refine Ev.step (f:=λk=>(r03_Get.f k a ((i+1:Nat):Int)).bind λt=>(r03_Get.f k b ((i+1:Nat):Int)).bind λu=>if t > u then(r03_Get.f k a ((i+1:Nat):Int)).bind λt=>r03_Join.l0 k a b ((List.zipWith greater (ofL a) (ofL b)).take i++[t]) ((i+1+1:Nat):Int) else(r03_Get.f k b ((i+1:Nat):Int)).bind λt=>r03_Join.l0 k a b ((List.zipWith greater (ofL a) (ofL b)).take i++[t]) ((i+1+1:Nat):Int)) (λk=>?_) ?_
  ·simp only [r03_Join.l0]
   rw [if_pos (by omega),ck_w (by omega)]
   simp only [if_pos hl]
  ·refine Ev.bind ga (Ev.bind gb ?_)
   by_cases h:(ofL a).getD i 0 > (ofL b).getD i 0
   ·rw [if_neg (by omega)] at hn
    exact ck_if h (Ev.bind ga hn)
   ·refine ck_else h (Ev.bind gb ?_)
    by_cases h':(ofL a).getD i 0<(ofL b).getD i 0
    ·rw [if_pos h'] at hn
     exact hn
    ·rw [if_neg h',show(ofL a).getD i 0=(ofL b).getD i 0 by omega] at hn
     exact hn
theorem join_ev (a b:List Int) (ha:a.length<=140737488355328) (hb:b.length<=140737488355328):Ev (λk=>r03_Join.f k a b) (trim (joinS [a,b])):=by
 rw [join_two]
 exact join_loop a b ha hb 5 0 (by omega)
theorem good_set {f:List Int} (h:GoodC f) (i:Nat) {n:Int} (h0:0<=n) (h1:n<=1048576):GoodC (f.set i n):=by
 refine ⟨by rw [List.length_set,h.1],λx hx=>?_⟩
 rcases List.mem_or_eq_of_mem_set hx with hx|hx
 ·exact h.2 x hx
 ·omega
theorem set_loop (l:List Int) (j:Nat) (hj:j<5) (n:Int) (hn:l.length<=140737488355328) (h0:0<=n) (h1:n<=1048576) (d:Nat):∀ i:Nat,i+d=5->Ev (λk=>r03_Set.l0 k l ((j+1:Nat):Int) n (((ofL l).set j n).take i) ((i+1:Nat):Int)) (trim ((ofL l).set j n)):=by
 have hz:=good_set (good_of l) j h0 h1
 induction d with
 | zero =>
  intro i hi
  obtain rfl:i=5:=by omega
  rw [take_five hz.1]
  refine Ev.step (f:=λk=>(r03_Plain.f k ((ofL l).set j n)).bind λt=>some t) (λk=>?_) (Ev.bind (plain_good hz) (Ev.now _))
  simp only [r03_Set.l0]
  rw [if_neg (by omega)]
 | succ d ih =>
  intro i hi
  have hl:(((ofL l).set j n).take i).length<17592186044416:=by rw [List.length_take,hz.1];omega
  have hn1:=ih (i+1) (by omega)
  rw [take_snoc5 hz.1 i (by omega)] at hn1
  by_cases h:i=j
  ·subst h
   have e:((ofL l).set i n).getD i 0=n:=by
    rw [List.getD_eq_getElem?_getD,List.getElem?_set_self (by rw [ofL_length];omega)]
    rfl
   rw [e] at hn1
   refine Ev.step (f:=λk=>r03_Set.l0 k l ((i+1:Nat):Int) n (((ofL l).set i n).take i++[n]) ((i+1+1:Nat):Int)) (λk=>?_) hn1
   simp only [r03_Set.l0]
   rw [if_pos (by omega),if_pos trivial,if_pos hl,ck_w (by omega)]
  ·have e:((ofL l).set j n).getD i 0=(ofL l).getD i 0:=by
    rw [List.getD_eq_getElem?_getD,List.getElem?_set_ne (λhh=>h hh.symm),List.getD_eq_getElem?_getD]
   rw [e] at hn1
   refine Ev.step (f:=λk=>(r03_Get.f k l ((i+1:Nat):Int)).bind λt=>r03_Set.l0 k l ((j+1:Nat):Int) n (((ofL l).set j n).take i++[t]) ((i+1+1:Nat):Int)) (λk=>?_) ?_
   ·simp only [r03_Set.l0]
    rw [if_pos (by omega),if_neg (by omega),ck_w (by omega)]
    simp only [if_pos hl]
   ·have:=get_ev l ((i+1:Nat):Int) hn
    rw [getS_nat l i (by omega)] at this
    exact Ev.bind this hn1
theorem set_ev (l:List Int) (rep n:Int) (hn:l.length<=140737488355328) (hk:setOk rep n=true):Ev (λk=>r03_Set.f k l rep n) (setS l rep n):=by
 unfold setOk at hk
 simp only [Bool.and_eq_true,decide_eq_true_eq] at hk
 obtain ⟨j,rfl⟩:∃ j:Nat,rep=((j+1:Nat):Int):=⟨(rep - 1).toNat,by omega⟩
 have h:=set_loop l j (by omega) n hn hk.2.1 hk.2.2 5 0 (by omega)
 have e:(((j+1:Nat):Int) - 1).toNat=j:=by omega
 unfold setS
 rw [e]
 exact h
end Go.Proofs.Ytjpjdipdhakjnaa.PStab
