import Derived.Test.YtgocnchjpecafaaPEvx2
import Derived.Test.YtgocnchjpecafaaEvPutsG
import Derived.Test.YtgocnchjpecafaaPEvx30
import Derived.Test.YtgocnchjpecafaaPEvx33
/- a part -/
namespace Go.Proofs.Ytgocnchjpecafaa.PEv
open Go.RowKit Go.Proofs.YtgocnchjpecafaaW.PrintWords Go.Proofs.YtgocnchjpecafaaW.PrintLast Go.Proofs.Ytgocnchjpecafaa.ClockBase
set_option linter.unusedVariables false
set_option linter.unusedSimpArgs false
theorem sum_ev (l:List Int) (hn:l.length≤140737488355328):Ev (fun k=>r03_Sum.f k l) (sumS l):=by
 have st:∀ (i:Nat) (x r:Int),i<5→Ev (fun k=>r03_Sum.l0 k l (wrap64 (x+(ofL l).getD i 0)) ((i+1+1:Nat):Int)) r→Ev (fun k=>r03_Sum.l0 k l x ((i+1:Nat):Int)) r:=by
  intro i x r hi h
  refine Ev.step (f:=fun k=>(r03_Get.f k l ((i+1:Nat):Int)).bind fun t=>r03_Sum.l0 k l (wrap64 (x+t)) ((i+1+1:Nat):Int)) (fun k=>?_) ?_
  ·simp only [r03_Sum.l0]
   rw [if_pos (by omega),ck_w (by omega)]
  ·have:=get_ev l ((i+1:Nat):Int) hn
   rw [getS_nat l i hi] at this
   exact Ev.bind this h
 obtain ⟨y0,y1,y2,y3,y4,e⟩:=five (ofL_length l)
 unfold r03_Sum.f sumS
 rw [e] at st ⊢
 refine st 0 0 _ (by omega) (st 1 _ _ (by omega) (st 2 _ _ (by omega) (st 3 _ _ (by omega) (st 4 _ _ (by omega) ?_))))
 refine Ev.step (f:=fun _=>some (List.foldl (fun a n=>wrap64 (a+n)) 0 [y0,y1,y2,y3,y4])) (fun k=>?_) (Ev.now _)
 simp only [r03_Sum.l0]
 rw [if_neg (by omega)]
 rfl
end Go.Proofs.Ytgocnchjpecafaa.PEv
namespace Go.Proofs.Ytgocnchjpecafaa.PEv
open Go.RowKit Go.Proofs.YtgocnchjpecafaaW.PrintWords Go.Proofs.YtgocnchjpecafaaW.PrintLast Go.Proofs.Ytgocnchjpecafaa.ClockBase Go.Proofs.Ytgocnchjpecafaa.Wr Go.Sort Go.Proofs.Ytgocnchjpecafaa.Srt
set_option linter.unusedVariables false
set_option linter.unusedSimpArgs false
instance inhS30:Inhabited S30:=⟨z30⟩
theorem lkAll_loop (l:List S30) (hn:l.length≤140737488355328) (hp:∀ x ∈ l,x.f1.length≤140737488355328∧x.f2.length≤140737488355328) (d:Nat):∀ (i:Nat),i+d=l.length→Ev (fun k=>r05_All.l0 k l l (i:Int)) true:=by
 induction d with
 | zero =>
  intro i hi
  refine Ev.step (f:=fun _=>some true) (fun k=>?_) (Ev.now _)
  simp only [r05_All.l0]
  rw [if_neg (by omega)]
 | succ d ih =>
  intro i hi
  have hlt:i<l.length:=by omega
  have hx:=hp _ (List.getElem_mem hlt)
  have er:rd_T30 l (i:Int)=l[i]:=rd30_at hlt
  refine Ev.step (f:=fun k=>(r05_Same.f k (l[i]).f0.f0 (l[i]).f0.f1 (l[i]).f1 (l[i]).f2 (l[i]).f0.f0 (l[i]).f0.f1 (l[i]).f1 (l[i]).f2).bind fun t=>if t=true then r05_All.l0 k l l ((i+1:Nat):Int) else some false) (fun k=>?_) ?_
  ·simp only [r05_All.l0]
   rw [if_pos (by omega),if_pos (by omega),if_pos (by omega),er,ck_w (by omega)]
  ·refine Ev.bind (evSame_ev _ _ _ _ hx.1 hx.2) ?_
   exact ck_if rfl (ih (i+1) (by omega))
theorem lkAll_ev (l:List S30) (hn:l.length≤140737488355328) (hp:∀ x ∈ l,x.f1.length≤140737488355328∧x.f2.length≤140737488355328):Ev (fun k=>r05_All.f k l l) true:=by
 unfold r05_All.f
 exact ck_if rfl (lkAll_loop l hn hp l.length 0 (by omega))
theorem lkSame_ev (c:List Int) (s:Bool) (es:List S30) (hc:c.length≤140737488355328) (hn:es.length≤140737488355328) (hp:∀ x ∈ es,x.f1.length≤140737488355328∧x.f2.length≤140737488355328):Ev (fun k=>r28_Same.f k c s es c s es) true:=by
 unfold r28_Same.f
 refine ck_if (by simp) ?_
 refine Ev.bind (same_yes c hc) ?_
 exact ck_if rfl (Ev.bind (lkAll_ev es hn hp) (Ev.now _))
def Fits (l:List S30):Prop:=∀ x ∈ l,x.f1.length≤140737488355328∧x.f2.length≤140737488355328
theorem less_ev (x y:S30) (hx:x.f1.length≤140737488355328) (hy:y.f1.length≤140737488355328):Ev (fun k=>r05_less.f k x.f0.f0 x.f0.f1 x.f1 x.f2 y.f0.f0 y.f0.f1 y.f1 y.f2) (event_Order.lt x y):=by
 unfold r05_less.f
 refine Ev.bind (sum_ev x.f1 hx) ?_
 refine Ev.bind (sum_ev y.f1 hy) ?_
 have key:=event_Order.lt_iff x y
 by_cases h1:sumS x.f1=sumS y.f1
 ·refine ck_if h1 ?_
  unfold r04_Less.f
  by_cases h2:x.f0.f0=y.f0.f0
  ·rw [if_pos h2]
   refine ev_is ?_
   rw [Option.bind_some,Option.some.injEq,Bool.eq_iff_iff,decide_eq_true_iff,key]
   omega
  ·rw [if_neg h2]
   refine ev_is ?_
   rw [Option.bind_some,Option.some.injEq,Bool.eq_iff_iff,decide_eq_true_iff,key]
   omega
 ·refine ck_else h1 ?_
  refine ev_is ?_
  rw [Option.some.injEq,Bool.eq_iff_iff,decide_eq_true_iff,key]
  omega
theorem insL_at {α:Type} {lt:α→α→Bool} {x:α}:∀ (A B:List α),(∀ a ∈ A,lt x a=false)→(∀ b ∈ B,lt x b=true)→insL lt x (A++B)=A++[x]++B
 | [],[],_,_=>rfl
 | [],b :: B,_,hB=>by
  show insL lt x (b :: B)=_
  unfold insL
  rw [if_pos (hB b List.mem_cons_self)]
  rfl
 | a :: A,B,hA,hB=>by
  show insL lt x (a :: (A++B))=_
  unfold insL
  rw [if_neg (by rw [hA a List.mem_cons_self];decide),insL_at A B (fun y hy=>hA y (List.mem_cons_of_mem _ hy)) hB]
  rfl
theorem order_l1 (x:S30) (out:List S30) (hx:x.f1.length≤140737488355328) (hf:Fits out) (hl:out.length<2199023255552):∀ (j:Nat),j≤out.length→(∀ b ∈ out.drop j,event_Order.lt x b=true) →
  ∃ j':Nat,Ev (fun k=>r05_Order.l1 k x out (j:Int)) ((j':Nat):Int)∧j'≤j∧(∀ b ∈ out.drop j',event_Order.lt x b=true)∧(j'=0∨∃ h:j' - 1<out.length,event_Order.lt x out[j' - 1]=false):=by
 intro j
 induction j with
 | zero =>
  intro _ hd
  refine ⟨0,Ev.step (f:=fun _=>some 0) (fun k=>?_) (Ev.now _),Nat.le_refl _,hd,.inl rfl⟩
  simp only [r05_Order.l1]
  rw [if_neg (by omega)]
  rfl
 | succ j ih =>
  intro hj hd
  have hlt:j<out.length:=by omega
  have hw:wrap64 (((j+1:Nat):Int) - 1)=(j:Int):=by unfold wrap64;omega
  have er:rd_T30 out (j:Int)=out[j]:=rd30_at hlt
  have hy:=hf _ (List.getElem_mem hlt)
  have st:∀ (r:Int),Ev (fun k=>if event_Order.lt x out[j]=true then r05_Order.l1 k x out (j:Int) else some ((j+1:Nat):Int)) r→Ev (fun k=>r05_Order.l1 k x out ((j+1:Nat):Int)) r:=by
   intro r h
   refine Ev.step (f:=fun k=>(r05_less.f k x.f0.f0 x.f0.f1 x.f1 x.f2 (out[j]).f0.f0 (out[j]).f0.f1 (out[j]).f1 (out[j]).f2).bind fun t=>if t=true then r05_Order.l1 k x out (j:Int) else some ((j+1:Nat):Int)) (fun k=>?_) ?_
   ·simp only [r05_Order.l1]
    rw [if_pos (by omega),hw,er]
   ·exact Ev.bind (less_ev x out[j] hx hy.1) h
  cases hc:event_Order.lt x out[j] with
  | false =>
   refine ⟨j+1,st _ (ck_else (by rw [hc];decide) (Ev.now _)),Nat.le_refl _,hd,.inr ⟨hlt,hc⟩⟩
  | true =>
   obtain ⟨j',h1,h2,h3,h4⟩:=ih (by omega) (fun b hb=>by
    rw [List.drop_eq_getElem_cons hlt] at hb
    rcases List.mem_cons.mp hb with rfl|hb
    ·exact hc
    ·exact hd b hb)
   exact ⟨j',st _ (ck_if hc h1),by omega,h3,h4⟩
theorem order_ins (x:S30) (out:List S30) (hs:out.Pairwise (fun x y=>event_Order.lt y x=false)) {j:Nat} (h1:∀ b ∈ out.drop j,event_Order.lt x b=true) (h2:j=0∨∃ h:j - 1<out.length,event_Order.lt x out[j - 1]=false):(out.take j++[x])++out.drop j=insL event_Order.lt x out:=by
 have:=insL_at (lt:=event_Order.lt) (x:=x) (out.take j) (out.drop j) ?_ h1
 ·rw [List.take_append_drop] at this
  exact this.symm
 ·intro a ha
  rcases h2 with rfl|⟨hlt,hf⟩
  ·cases ha
  ·obtain ⟨i,hi,rfl⟩:=List.mem_iff_getElem.mp ha
   rw [List.length_take] at hi
   rw [List.getElem_take]
   by_cases e:i=j - 1
   ·subst e;exact hf
   ·cases hc:event_Order.lt x out[i] with
    | false=>rfl
    | true =>
     have:=List.pairwise_iff_getElem.mp hs i (j - 1) (by omega) hlt (by omega)
     rw [lt_le event_Order.swo hc this] at hf
     cases hf
theorem order_l0 (l:List S30) (hf:Fits l) (hl:l.length<2199023255552) (d:Nat):∀ (i:Nat) (out:List S30),i+d=l.length→out.length=i→Fits out→out.Pairwise (fun x y=>event_Order.lt y x=false)→Ev (fun k=>r05_Order.l0 k l out (i:Int)) ((l.drop i).foldl (fun acc x=>insL event_Order.lt x acc) out):=by
 induction d with
 | zero =>
  intro i out hi ho hfo hs
  rw [List.drop_eq_nil_of_le (by omega)]
  refine Ev.step (f:=fun _=>some out) (fun k=>?_) (Ev.now _)
  simp only [r05_Order.l0]
  rw [if_neg (by omega)]
 | succ d ih =>
  intro i out hi ho hfo hs
  have hlt:i<l.length:=by omega
  have hx:=hf _ (List.getElem_mem hlt)
  have er:rd_T30 l (i:Int)=l[i]:=rd30_at hlt
  obtain ⟨j',h1,h2,h3,h4⟩:=order_l1 l[i] out hx.1 hfo (by omega) out.length (Nat.le_refl _) (fun b hb=>by rw [List.drop_length] at hb;cases hb)
  rw [List.drop_eq_getElem_cons hlt,List.foldl_cons]
  refine Ev.step (f:=fun k=>(r05_Order.l1 k l[i] out (out.length:Int)).bind fun j=>if out.length+1<2199023255552 then r05_Order.l0 k l ((out.take j.toNat++[l[i]])++out.drop j.toNat) ((i+1:Nat):Int) else none) (fun k=>?_) ?_
  ·simp only [r05_Order.l0]
   rw [if_pos (by omega),if_pos (by omega),er,ck_w (by omega)]
  ·refine Ev.bind h1 ?_
   refine ck_if (by omega) ?_
   rw [Int.toNat_natCast,order_ins l[i] out hs h3 h4]
   refine ih (i+1) _ (by omega) ?_ ?_ (insL_sorted event_Order.swo _ _ hs)
   ·rw [←order_ins l[i] out hs h3 h4]
    simp only [List.length_append,List.length_take,List.length_drop,List.length_singleton]
    omega
   ·intro y hy
    rcases insL_mem hy with rfl|hy
    ·exact hx
    ·exact hfo y hy
theorem refOrder_ev (l:List S30) (hf:Fits l) (hl:l.length<2199023255552):Ev (fun k=>r05_Order.f k l) (ordL event_Order.lt l):=by
 have:=order_l0 l hf hl l.length 0 [] (by omega) rfl (fun x hx=>by cases hx) List.Pairwise.nil
 rw [List.drop_zero] at this
 exact this
theorem foldl_mem (l:List S30):∀ (acc:List S30) (z:S30),z ∈ l.foldl (fun acc x=>insL event_Order.lt x acc) acc→z ∈ acc∨z ∈ l:=by
 induction l with
 | nil=>exact fun acc z h=>.inl h
 | cons x l ih =>
  intro acc z h
  rw [List.foldl_cons] at h
  rcases ih _ z h with h|h
  ·rcases insL_mem h with rfl|h
   ·exact .inr List.mem_cons_self
   ·exact .inl h
  ·exact .inr (List.mem_cons_of_mem _ h)
theorem ordL_mem {l:List S30} {z:S30} (h:z ∈ ordL event_Order.lt l):z ∈ l:=by
 rcases foldl_mem l [] z h with h|h
 ·cases h
 ·exact h
theorem insL_len (x:S30):∀ ys:List S30,(insL event_Order.lt x ys).length=ys.length+1
 | []=>rfl
 | y :: ys=>by
  unfold insL
  split
  ·rfl
  ·rw [List.length_cons,insL_len x ys];rfl
theorem ordL_len (l:List S30):(ordL event_Order.lt l).length=l.length:=by
 have:∀ (l acc:List S30),(l.foldl (fun acc x=>insL event_Order.lt x acc) acc).length=acc.length+l.length:=by
  intro l
  induction l with
  | nil=>exact fun acc=>rfl
  | cons x l ih =>
   intro acc
   rw [List.foldl_cons,ih,insL_len,List.length_cons]
   omega
 have h:=this l []
 rw [List.length_nil,Nat.zero_add] at h
 exact h
def lkS (c:List Int) (most:Int):List S30→List S30→List S30
 | [],acc=>acc
 | x :: l,acc=>if most≤(acc.length:Int) then acc else if OkE x∧getS c x.f0.f0<x.f0.f1 then lkS c most l (acc++[x]) else lkS c most l acc
theorem lkS_mem {c:List Int} {most:Int}:∀ (l acc:List S30) (z:S30),z ∈ lkS c most l acc→z ∈ acc∨OkE z
 | [],acc,z,h=>.inl h
 | x :: l,acc,z,h=>by
  unfold lkS at h
  split at h
  ·exact .inl h
  ·split at h
   ·rename_i hk
    rcases lkS_mem l _ z h with h|h
    ·rcases List.mem_append.mp h with h|h
     ·exact .inl h
     ·rw [List.mem_singleton.mp h];exact .inr hk.1
    ·exact .inr h
   ·exact lkS_mem l _ z h
theorem lkS_len {c:List Int} {most:Int}:∀ (l acc:List S30),((acc.length:Int)≤most∨acc=[])→((lkS c most l acc).length:Int)≤most∨lkS c most l acc=[]
 | [],acc,h=>h
 | x :: l,acc,h=>by
  unfold lkS
  split
  ·exact h
  ·split
   ·exact lkS_len l _ (.inl (by rw [List.length_append,List.length_singleton];omega))
   ·exact lkS_len l _ h
theorem lkS_le {c:List Int} {most:Int}:∀ (l acc:List S30),(lkS c most l acc).length≤acc.length+l.length
 | [],acc=>Nat.le_refl _
 | x :: l,acc=>by
  unfold lkS
  split
  ·omega
  ·split
   ·have:=lkS_le (c:=c) (most:=most) l (acc++[x])
    rw [List.length_append,List.length_singleton] at this
    rw [List.length_cons]
    omega
   ·have:=lkS_le (c:=c) (most:=most) l acc
    rw [List.length_cons]
    omega
theorem goLacks_loop (o:List S30) (ho:o.length<2199023255552) (c:List Int) (most:Int) (d:Nat):∀ (i:Nat) (acc:List S30),i+d=o.length→acc.length≤i→Ev (fun k=>gossip_Lacks.l0 k o c most acc (i:Int)) (lkS c most (o.drop i) acc):=by
 induction d with
 | zero =>
  intro i acc hi ha
  rw [List.drop_eq_nil_of_le (by omega)]
  refine Ev.step (f:=fun _=>some acc) (fun k=>?_) (Ev.now _)
  simp only [gossip_Lacks.l0]
  rw [if_neg (by omega)]
 | succ d ih =>
  intro i acc hi ha
  have hlt:i<o.length:=by omega
  have er:rd_T30 o (i:Int)=o[i]:=rd30_at hlt
  rw [List.drop_eq_getElem_cons hlt]
  unfold lkS
  refine Ev.step (f:=fun k=>if most≤(acc.length:Int) then some acc else((event_Check.f k (o[i]).f0.f0 (o[i]).f0.f1 (o[i]).f1 (o[i]).f2).bind fun t=>if t=0 then(if getS c (o[i]).f0.f0<(o[i]).f0.f1 then((api_Clock_int_79.f (o[i]).f1).bind fun p=>(api_Effect_80.f (o[i]).f2).bind fun q=>if acc.length+1<2199023255552 then gossip_Lacks.l0 k o c most (acc++[⟨(o[i]).f0,p,q⟩]) ((i+1:Nat):Int) else none) else gossip_Lacks.l0 k o c most acc ((i+1:Nat):Int)) else gossip_Lacks.l0 k o c most acc ((i+1:Nat):Int))) (fun k=>?_) ?_
  ·simp only [gossip_Lacks.l0]
   rw [if_pos (by omega),if_pos (by omega),er,ck_w (by omega)]
  ·by_cases hm:most≤(acc.length:Int)
   ·rw [if_pos hm]
    exact ck_if hm (Ev.now _)
   rw [if_neg hm]
   refine ck_else hm ?_
   refine Ev.bind (evCheck_ev _ _ _ _) ?_
   by_cases hk:OkE o[i]
   rotate_left
   ·rw [if_neg (show ¬ OkEv _ _ _ _ from hk),if_neg (fun h:OkE o[i]∧_=>hk h.1)]
    exact ck_else (by decide) (ih (i+1) acc (by omega) (by omega))
   rw [if_pos (show OkEv _ _ _ _ from hk)]
   refine ck_if rfl ?_
   by_cases hg:getS c (o[i]).f0.f0<(o[i]).f0.f1
   rotate_left
   ·rw [if_neg (fun h:OkE o[i]∧_=>hg h.2)]
    exact ck_else hg (ih (i+1) acc (by omega) (by omega))
   rw [if_pos ⟨hk,hg⟩]
   refine ck_if hg ?_
   have h1:=(okC_iff.mp hk.2.2.2.2.1).1
   have h2:=hk.2.2.2.2.2.2.2.2.1
   have e1:api_Clock_int_79.f (o[i]).f1=some (o[i]).f1:=by
    unfold api_Clock_int_79.f
    simp only [Option.bind_some,List.length_nil,List.nil_append]
    exact if_pos (by omega)
   have e2:api_Effect_80.f (o[i]).f2=some (o[i]).f2:=by
    unfold api_Effect_80.f
    simp only [Option.bind_some,List.length_nil,List.nil_append]
    exact if_pos (by omega)
   simp only [e1,e2,Option.bind_some]
   refine ck_if (by omega) ?_
   exact ih (i+1) (acc++[o[i]]) (by omega) (by rw [List.length_append,List.length_singleton];omega)
theorem goLacks_ev (l:List S30) (hl:l.length<2199023255552) (c:List Int) (most:Int):Ev (fun k=>gossip_Lacks.f k l c most) (lkS c most (ordL event_Order.lt l) []):=by
 unfold gossip_Lacks.f
 refine Ev.bind (ev_is (if_pos hl)) ?_
 have hlen:=ordL_len l
 have:=goLacks_loop (ordL event_Order.lt l) (by omega) c most (ordL event_Order.lt l).length 0 [] (by omega) (Nat.le_refl _)
 rw [List.drop_zero] at this
 exact this
theorem refLacks_loop (o:List S30) (ho:o.length<2199023255552) (hf:Fits o) (c:List Int) (hc:c.length≤140737488355328) (most:Int) (d:Nat):∀ (i:Nat) (acc:List S30),i+d=o.length→acc.length≤i→Ev (fun k=>r28_Lacks.l0 k c most acc o (i:Int)) (lkS c most (o.drop i) acc):=by
 induction d with
 | zero =>
  intro i acc hi ha
  rw [List.drop_eq_nil_of_le (by omega)]
  refine Ev.step (f:=fun k=>r28_Lacks.j1 k c most acc o (i:Int) false) (fun k=>?_) ?_
  ·simp only [r28_Lacks.l0]
   rw [if_neg (by omega)]
  ·refine Ev.step (f:=fun _=>some acc) (fun k=>?_) (Ev.now _)
   simp only [r28_Lacks.j1]
   rw [if_neg (by decide)]
 | succ d ih =>
  intro i acc hi ha
  have hlt:i<o.length:=by omega
  have er:rd_T30 o (i:Int)=o[i]:=rd30_at hlt
  have hx:=hf _ (List.getElem_mem hlt)
  rw [List.drop_eq_getElem_cons hlt]
  unfold lkS
  refine Ev.step (f:=fun k=>r28_Lacks.j1 k c most acc o (i:Int) (decide ((acc.length:Int)<most))) (fun k=>?_) ?_
  ·simp only [r28_Lacks.l0]
   rw [if_pos (by omega)]
  by_cases hm:most≤(acc.length:Int)
  ·rw [if_pos hm,decide_eq_false (by omega)]
   refine Ev.step (f:=fun _=>some acc) (fun k=>?_) (Ev.now _)
   simp only [r28_Lacks.j1]
   rw [if_neg (by decide)]
  rw [if_neg hm,decide_eq_true (by omega)]
  refine Ev.step (f:=fun k=>(r05_May.f k (o[i]).f0.f0 (o[i]).f0.f1 (o[i]).f1 (o[i]).f2).bind fun t=>if t=true then((r03_Get.f k c (o[i]).f0.f0).bind fun s=>if s<(o[i]).f0.f1 then(if acc.length<2199023255552 then r28_Lacks.l0 k c most (acc++[o[i]]) o ((i+1:Nat):Int) else none) else r28_Lacks.l0 k c most acc o ((i+1:Nat):Int)) else r28_Lacks.l0 k c most acc o ((i+1:Nat):Int)) (fun k=>?_) ?_
  ·simp only [r28_Lacks.j1]
   rw [if_pos trivial,if_pos (by omega),if_pos (by omega),er,ck_w (by omega)]
  ·refine Ev.bind (refMay_ev _ _ _ _ hx.1 hx.2) ?_
   by_cases hk:OkE o[i]
   rotate_left
   ·rw [if_neg (fun h:OkE o[i]∧_=>hk h.1)]
    exact ck_else (fun h=>hk (of_decide_eq_true h)) (ih (i+1) acc (by omega) (by omega))
   refine ck_if (decide_eq_true hk) ?_
   refine Ev.bind (get_ev c _ hc) ?_
   by_cases hg:getS c (o[i]).f0.f0<(o[i]).f0.f1
   rotate_left
   ·rw [if_neg (fun h:OkE o[i]∧_=>hg h.2)]
    exact ck_else hg (ih (i+1) acc (by omega) (by omega))
   rw [if_pos ⟨hk,hg⟩]
   refine ck_if hg ?_
   refine ck_if (by omega) ?_
   exact ih (i+1) (acc++[o[i]]) (by omega) (by rw [List.length_append,List.length_singleton];omega)
theorem refLacks_ev (l:List S30) (hl:l.length<2199023255552) (hf:Fits l) (c:List Int) (hc:c.length≤140737488355328) (most:Int):Ev (fun k=>r28_Lacks.f k l c most) (lkS c most (ordL event_Order.lt l) []):=by
 unfold r28_Lacks.f
 refine Ev.bind (refOrder_ev l hf hl) ?_
 have hlen:=ordL_len l
 have:=refLacks_loop (ordL event_Order.lt l) (by omega) (fun x hx=>hf x (ordL_mem hx)) c hc most (ordL event_Order.lt l).length 0 [] (by omega) (Nat.le_refl _)
 rw [List.drop_zero] at this
 exact this
theorem answer_ev (l:List S30) (hl:l.length<2199023255552) (own c:List Int) (s:Bool) (es:List S30):Ev (fun k=>gossip_Answer.f k l own c s es)
  (if okC own=true∧s=true∧lkS c 16 (ordL event_Order.lt l) []≠[] then(trim (ofL own),false,lkS c 16 (ordL event_Order.lt l) [],true) else([],false,[],false)):=by
 unfold gossip_Answer.f
 refine Ev.bind (goLacks_ev l hl c 16) ?_
 refine Ev.bind (ev_is rfl) ?_
 generalize lkS c 16 (ordL event_Order.lt l) []=L
 by_cases h1:okC own=true
 rotate_left
 ·rw [if_neg h1,if_neg (fun h:okC own=true∧s=true∧L≠[]=>h1 h.1)]
  exact ck_else (by decide) (Ev.now _)
 rw [if_pos h1]
 refine ck_if rfl ?_
 by_cases h2:s=true
 rotate_left
 ·rw [if_neg (fun h:okC own=true∧s=true∧L≠[]=>h2 h.2.1)]
  exact ck_else h2 (Ev.now _)
 refine ck_if h2 ?_
 by_cases h3:L=[]
 ·rw [if_neg (fun h:okC own=true∧s=true∧L≠[]=>h.2.2 h3)]
  exact ck_if (by rw [h3];rfl) (Ev.now _)
 ·rw [if_pos (show okC own=true∧s=true∧L≠[] from ⟨h1,h2,h3⟩)]
  refine ck_else (fun h=>h3 (List.eq_nil_of_length_eq_zero (by omega))) ?_
  exact Ev.bind (ev_is rfl) (Ev.now _)
end Go.Proofs.Ytgocnchjpecafaa.PEv
