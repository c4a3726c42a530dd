import Derived.Test.YtgocnchjpecafaaPEvx2
import Derived.Test.YtgocnchjpecafaaEvPutsG
import Derived.Test.YtgocnchjpecafaaPEvx33
/- a part -/
namespace Go.Proofs.Ytgocnchjpecafaa.PEv
open Go.RowKit Go.Proofs.YtgocnchjpecafaaW.PrintWords Go.Proofs.YtgocnchjpecafaaW.PrintLast Go.Proofs.Ytgocnchjpecafaa.ClockBase
set_option linter.unusedVariables false
set_option linter.unusedSimpArgs false
def leF (a b:List Int):Nat->Nat->Bool
 | 0,_=>true
 | d+1,i=>decide (a.getD i 0<=b.getD i 0) && leF a b d (i+1)
theorem within_loop (a b:List Int) (ha:a.length<=140737488355328) (hb:b.length<=140737488355328) (d:Nat):∀ i:Nat,i+d=5->Ev (λk=>r03_Within.l0 k a b ((i+1:Nat):Int)) (leF (ofL a) (ofL b) d i):=by
 induction d with
 | zero =>
  intro i hi
  refine Ev.step (f:=λ_=>some true) (λk=>?_) (Ev.now _)
  simp only [r03_Within.l0]
  rw [if_neg (by omega)]
 | succ d ih =>
  intro i hi
  refine Ev.step (f:=λk=>(r03_Get.f k a ((i+1:Nat):Int)).bind λt=>(r03_Get.f k b ((i+1:Nat):Int)).bind λu=>if t > u then some false else r03_Within.l0 k a b ((i+1+1:Nat):Int)) (λk=>?_) ?_
  ·simp only [r03_Within.l0]
   rw [if_pos (by omega),ck_w (by omega)]
  ·refine Ev.bind (get_ev a _ ha) (Ev.bind (get_ev b _ hb) ?_)
   rw [getS_nat a i (by omega),getS_nat b i (by omega)]
   unfold leF
   by_cases h:(ofL a).getD i 0 > (ofL b).getD i 0
   ·rw [decide_eq_false (by omega),Bool.false_and]
    exact ck_if h (Ev.now _)
   ·rw [decide_eq_true (by omega),Bool.true_and]
    exact ck_else h (ih (i+1) (by omega))
theorem within_ev (a b:List Int) (ha:a.length<=140737488355328) (hb:b.length<=140737488355328):Ev (λk=>r03_Within.f k a b) (withinS a b):=by
 have h:=within_loop a b ha hb 5 0 (by omega)
 have e:withinS a b=leF (ofL a) (ofL b) 5 0:=by
  simp [withinS,leF,List.range,List.range.loop]
 rw [e]
 exact h
theorem plain_good {f:List Int} (h:GoodC f):Ev (λk=>r03_Plain.f k f) (trim f):=by
 have:=plain_ev f (by rw [h.1];decide)
 rwa [ofL_good h] at this
theorem take_five {f:List Int} (h:f.length=5):f.take 5=f:=by rw [<-h,List.take_length]
theorem sum_ev (l:List Int) (hn:l.length<=140737488355328):Ev (λk=>r03_Sum.f k l) (sumS l):=by
 have st:∀ (i:Nat) (x r:Int),i<5->Ev (λk=>r03_Sum.l0 k l (wrap64 (x+(ofL l).getD i 0)) ((i+1+1:Nat):Int)) r->Ev (λk=>r03_Sum.l0 k l x ((i+1:Nat):Int)) r:=by
  intro i x r hi h
  refine Ev.step (f:=λk=>(r03_Get.f k l ((i+1:Nat):Int)).bind λt=>r03_Sum.l0 k l (wrap64 (x+t)) ((i+1+1:Nat):Int)) (λk=>?_) ?_
  ·simp only [r03_Sum.l0]
   rw [if_pos (by omega),ck_w (by omega)]
  ·have:=get_ev l ((i+1:Nat):Int) hn
   rw [getS_nat l i hi] at this
   exact Ev.bind this h
 obtain ⟨y0,y1,y2,y3,y4,e⟩:=five (ofL_length l)
 unfold r03_Sum.f sumS
 rw [e] at st ⊢
 refine st 0 0 _ (by omega) (st 1 _ _ (by omega) (st 2 _ _ (by omega) (st 3 _ _ (by omega) (st 4 _ _ (by omega) ?_))))
 refine Ev.step (f:=λ_=>some (List.foldl (λa n=>wrap64 (a+n)) 0 [y0,y1,y2,y3,y4])) (λk=>?_) (Ev.now _)
 simp only [r03_Sum.l0]
 rw [if_neg (by omega)]
 rfl
theorem good_set {f:List Int} (h:GoodC f) (i:Nat) {n:Int} (h0:0<=n) (h1:n<=1048576):GoodC (f.set i n):=by
 refine ⟨by rw [List.length_set,h.1],λx hx=>?_⟩
 rcases List.mem_or_eq_of_mem_set hx with hx|hx
 ·exact h.2 x hx
 ·omega
theorem set_loop (l:List Int) (j:Nat) (hj:j<5) (n:Int) (hn:l.length<=140737488355328) (h0:0<=n) (h1:n<=1048576) (d:Nat):∀ i:Nat,i+d=5->Ev (λk=>r03_Set.l0 k l ((j+1:Nat):Int) n (((ofL l).set j n).take i) ((i+1:Nat):Int)) (trim ((ofL l).set j n)):=by
 have hz:=good_set (good_of l) j h0 h1
 induction d with
 | zero =>
  intro i hi
  obtain rfl:i=5:=by omega
  rw [take_five hz.1]
  refine Ev.step (f:=λk=>(r03_Plain.f k ((ofL l).set j n)).bind λt=>some t) (λk=>?_) (Ev.bind (plain_good hz) (Ev.now _))
  simp only [r03_Set.l0]
  rw [if_neg (by omega)]
 | succ d ih =>
  intro i hi
  have hl:(((ofL l).set j n).take i).length<17592186044416:=by rw [List.length_take,hz.1];omega
  have hn1:=ih (i+1) (by omega)
  rw [take_snoc5 hz.1 i (by omega)] at hn1
  by_cases h:i=j
  ·subst h
   have e:((ofL l).set i n).getD i 0=n:=by
    rw [List.getD_eq_getElem?_getD,List.getElem?_set_self (by rw [ofL_length];omega)]
    rfl
   rw [e] at hn1
   refine Ev.step (f:=λk=>r03_Set.l0 k l ((i+1:Nat):Int) n (((ofL l).set i n).take i++[n]) ((i+1+1:Nat):Int)) (λk=>?_) hn1
   simp only [r03_Set.l0]
   rw [if_pos (by omega),if_pos trivial,if_pos hl,ck_w (by omega)]
  ·have e:((ofL l).set j n).getD i 0=(ofL l).getD i 0:=by
    rw [List.getD_eq_getElem?_getD,List.getElem?_set_ne (λhh=>h hh.symm),List.getD_eq_getElem?_getD]
   rw [e] at hn1
   refine Ev.step (f:=λk=>(r03_Get.f k l ((i+1:Nat):Int)).bind λt=>r03_Set.l0 k l ((j+1:Nat):Int) n (((ofL l).set j n).take i++[t]) ((i+1+1:Nat):Int)) (λk=>?_) ?_
   ·simp only [r03_Set.l0]
    rw [if_pos (by omega),if_neg (by omega),ck_w (by omega)]
    simp only [if_pos hl]
   ·have:=get_ev l ((i+1:Nat):Int) hn
    rw [getS_nat l i (by omega)] at this
    exact Ev.bind this hn1
theorem set_ev (l:List Int) (rep n:Int) (hn:l.length<=140737488355328) (hk:setOk rep n=true):Ev (λk=>r03_Set.f k l rep n) (setS l rep n):=by
 unfold setOk at hk
 simp only [Bool.and_eq_true,decide_eq_true_eq] at hk
 obtain ⟨j,rfl⟩:∃ j:Nat,rep=((j+1:Nat):Int):=⟨(rep - 1).toNat,by omega⟩
 have h:=set_loop l j (by omega) n hn hk.2.1 hk.2.2 5 0 (by omega)
 have e:(((j+1:Nat):Int) - 1).toNat=j:=by omega
 unfold setS
 rw [e]
 exact h
end Go.Proofs.Ytgocnchjpecafaa.PEv
namespace Go.Proofs.Ytgocnchjpecafaa.PEv
open Go.RowKit Go.Proofs.YtgocnchjpecafaaW.PrintWords Go.Proofs.YtgocnchjpecafaaW.PrintLast Go.Proofs.Ytgocnchjpecafaa.ClockBase Go.Proofs.Ytgocnchjpecafaa.Wr Go.Sort Go.Proofs.Ytgocnchjpecafaa.Srt
set_option linter.unusedVariables false
set_option linter.unusedSimpArgs false
instance inhS30:Inhabited S30:=⟨z30⟩
def Fits (l:List S30):Prop:=∀ x ∈ l,x.f1.length<=140737488355328/\x.f2.length<=140737488355328
theorem insL_len (x:S30):∀ ys:List S30,(insL event_Order.lt x ys).length=ys.length+1
 | []=>rfl
 | y :: ys=>by
  unfold insL
  split
  ·rfl
  ·rw [List.length_cons,insL_len x ys];rfl
theorem ordL_len (l:List S30):(ordL event_Order.lt l).length=l.length:=by
 have:∀ (l acc:List S30),(l.foldl (λacc x=>insL event_Order.lt x acc) acc).length=acc.length+l.length:=by
  intro l
  induction l with
  | nil=>exact λacc=>rfl
  | cons x l ih =>
   intro acc
   rw [List.foldl_cons,ih,insL_len,List.length_cons]
   omega
 have h:=this l []
 rw [List.length_nil,Nat.zero_add] at h
 exact h
def lkS (c:List Int) (most:Int):List S30->List S30->List S30
 | [],acc=>acc
 | x :: l,acc=>if most<=(acc.length:Int) then acc else if OkE x/\getS c x.f0.f0<x.f0.f1 then lkS c most l (acc++[x]) else lkS c most l acc
theorem goLacks_loop (o:List S30) (ho:o.length<2199023255552) (c:List Int) (most:Int) (d:Nat):∀ (i:Nat) (acc:List S30),i+d=o.length->acc.length<=i->Ev (λk=>gossip_Lacks.l0 k o c most acc (i:Int)) (lkS c most (o.drop i) acc):=by
 induction d with
 | zero =>
  intro i acc hi ha
  rw [List.drop_eq_nil_of_le (by omega)]
  refine Ev.step (f:=λ_=>some acc) (λk=>?_) (Ev.now _)
  simp only [gossip_Lacks.l0]
  rw [if_neg (by omega)]
 | succ d ih =>
  intro i acc hi ha
  have hlt:i<o.length:=by omega
  have er:rd_T30 o (i:Int)=o[i]:=rd30_at hlt
  rw [List.drop_eq_getElem_cons hlt]
  unfold lkS
  refine Ev.step (f:=λk=>if most<=(acc.length:Int) then some acc else((event_Check.f k (o[i]).f0.f0 (o[i]).f0.f1 (o[i]).f1 (o[i]).f2).bind λt=>if t=0 then(if getS c (o[i]).f0.f0<(o[i]).f0.f1 then((api_Clock_int_79.f (o[i]).f1).bind λp=>(api_Effect_80.f (o[i]).f2).bind λq=>if acc.length+1<2199023255552 then gossip_Lacks.l0 k o c most (acc++[⟨(o[i]).f0,p,q⟩]) ((i+1:Nat):Int) else none) else gossip_Lacks.l0 k o c most acc ((i+1:Nat):Int)) else gossip_Lacks.l0 k o c most acc ((i+1:Nat):Int))) (λk=>?_) ?_
  ·simp only [gossip_Lacks.l0]
   rw [if_pos (by omega),if_pos (by omega),er,ck_w (by omega)]
  ·by_cases hm:most<=(acc.length:Int)
   ·rw [if_pos hm]
    exact ck_if hm (Ev.now _)
   rw [if_neg hm]
   refine ck_else hm ?_
   refine Ev.bind (evCheck_ev _ _ _ _) ?_
   by_cases hk:OkE o[i]
   rotate_left
   ·rw [if_neg (show ¬ OkEv _ _ _ _ from hk),if_neg (λh:OkE o[i]/\_=>hk h.1)]
    exact ck_else (by decide) (ih (i+1) acc (by omega) (by omega))
   rw [if_pos (show OkEv _ _ _ _ from hk)]
   refine ck_if rfl ?_
   by_cases hg:getS c (o[i]).f0.f0<(o[i]).f0.f1
   rotate_left
   ·rw [if_neg (λh:OkE o[i]/\_=>hg h.2)]
    exact ck_else hg (ih (i+1) acc (by omega) (by omega))
   rw [if_pos ⟨hk,hg⟩]
   refine ck_if hg ?_
   have h1:=(okC_iff.mp hk.2.2.2.2.1).1
   have h2:=hk.2.2.2.2.2.2.2.2.1
   have e1:api_Clock_int_79.f (o[i]).f1=some (o[i]).f1:=by
    unfold api_Clock_int_79.f
    simp only [Option.bind_some,List.length_nil,List.nil_append]
    exact if_pos (by omega)
   have e2:api_Effect_80.f (o[i]).f2=some (o[i]).f2:=by
    unfold api_Effect_80.f
    simp only [Option.bind_some,List.length_nil,List.nil_append]
    exact if_pos (by omega)
   simp only [e1,e2,Option.bind_some]
   refine ck_if (by omega) ?_
   exact ih (i+1) (acc++[o[i]]) (by omega) (by rw [List.length_append,List.length_singleton];omega)
theorem goLacks_ev (l:List S30) (hl:l.length<2199023255552) (c:List Int) (most:Int):Ev (λk=>gossip_Lacks.f k l c most) (lkS c most (ordL event_Order.lt l) []):=by
 unfold gossip_Lacks.f
 refine Ev.bind (ev_is (if_pos hl)) ?_
 have hlen:=ordL_len l
 have:=goLacks_loop (ordL event_Order.lt l) (by omega) c most (ordL event_Order.lt l).length 0 [] (by omega) (Nat.le_refl _)
 rw [List.drop_zero] at this
 exact this
end Go.Proofs.Ytgocnchjpecafaa.PEv
