/- a part -/
import Derived.Test.YtgocnchjpecafaaEvPure
import Derived.Test.YtgocnchjpecafaaPEvx27
import Derived.Test.YtgocnchjpecafaaPEvx29
theorem yem_0 {P:Prop} (h:P:=by simp only [List.mem_cons,List.not_mem_nil,or_false] at ht;rcases ht with rfl|rfl<;>omega):P:=h
theorem yem_1 {P:Prop} (h:P:=by rw [List.length_append,hn];simp only [List.length_cons,List.length_nil];omega):P:=h
namespace Go.Proofs.Ytgocnchjpecafaa.PEv
open Go.RowKit Go.Proofs.YtgocnchjpecafaaW.PrintWords Go.Proofs.YtgocnchjpecafaaW.PrintLast Go.Proofs.Ytgocnchjpecafaa.ClockBase Go.Proofs.Ytgocnchjpecafaa.Wr
set_option linter.unusedVariables false
set_option linter.unusedSimpArgs false
theorem nums_loop (l:List Int) (hl:l.length≤1000) (hs:∀ n ∈ l,0≤n∧n≤1048576) (d:Nat):∀ (i:Nat),i+d=l.length→Ev (fun k=>event_nums.l0 k ((numsB l).take i) l (l.length:Int) (i:Int)) (numsB l):=by
 have hn:(numsB l).length=l.length:=by unfold numsB;rw [List.length_map]
 induction d with
 | zero =>
  intro i hi
  obtain rfl:i=l.length:=by omega
  have e:(numsB l).take l.length=numsB l:=by rw [←hn,List.take_length]
  rw [e]
  refine Ev.step (f:=fun k=>some (numsB l)) (fun k=>?_) (Ev.now _)
  simp only [event_nums.l0]
  rw [if_neg (by omega)]
 | succ d ih =>
  intro i hi
  have hlt:i<l.length:=by omega
  have hg:=hs _ (List.getElem_mem hlt)
  have hlen:((numsB l).take i).length<5864062014805:=by rw [List.length_take];omega
  have ht:(numsB l).take (i+1)=(numsB l).take i++[num (l[i]).toNat]:=by
   rw [List.take_add_one,List.getElem?_eq_getElem (by omega)]
   simp [numsB]
  refine Ev.step (f:=fun k=>(wire_Num.f k (((l[i]).toNat:Nat):Int)).bind fun t=>event_nums.l0 k ((numsB l).take i++[t]) l (l.length:Int) ((i+1:Nat):Int)) (fun k=>?_) ?_
  ·simp only [event_nums.l0];rw [if_pos (by omega),if_pos (by omega),if_pos (by omega),ck_rd hlt,small_u64 hg.1 hg.2,ck_w (by omega)];simp only [if_pos hlen]
  ·refine Ev.bind (num_ev _ (by omega)) ?_
   rw [←ht]
   exact ih (i+1) (by omega)
theorem nums_ev (l:List Int) (hl:l.length≤1000) (hs:∀ n ∈ l,0≤n∧n≤1048576):Ev (fun k=>event_nums.f k l) (numsB l):=by
 have:=nums_loop l hl hs l.length 0 (by omega)
 rw [List.take_zero] at this
 exact this
theorem evPut_loop (es:List S48) (hes:es.length≤16) (hk:∀ x ∈ es,OkEff x) (p q:List Int) (hp:p.length≤447) (hq:q.length≤447) (d:Nat):∀ (i:Nat),i+d=es.length→Ev (fun k=>event_Put.l0 k es ([p,q]++(es.map effB).take i) (i:Int)) (pack ([p,q]++es.map effB)):=by
 have hn:(es.map effB).length=es.length:=by rw [List.length_map]
 induction d with
 | zero =>
  intro i hi
  obtain rfl:i=es.length:=by omega
  have e:(es.map effB).take es.length=es.map effB:=by rw [←hn,List.take_length]
  rw [e]
  refine Ev.step (f:=fun k=>wire_Pack.f k ([p,q]++es.map effB)) (fun k=>?_) ?_
  ·simp only [event_Put.l0];rw [if_neg (by omega)]
  ·refine pack_ev _ yem_1 (fun t ht=>?_)
   rcases List.mem_append.mp ht with ht|ht
   ·exact yem_0
   ·obtain ⟨x,hx,rfl⟩:=List.mem_map.mp ht
    have:=effB_le (hk x hx)
    omega
 | succ d ih =>
  intro i hi
  have hlt:i<es.length:=by omega
  have hx:=hk _ (List.getElem_mem hlt)
  have hw:=eff_word hx
  have hlen:([p,q]++(es.map effB).take i).length<5864062014805:=by rw [List.length_append,List.length_take];simp only [List.length_cons,List.length_nil];omega
  have ht:[p,q]++(es.map effB).take (i+1)=([p,q]++(es.map effB).take i)++[effB es[i]]:=by
   rw [List.take_add_one,List.getElem?_eq_getElem (by omega)]
   simp
  refine Ev.step (f:=fun k=>(event_nums.f k [(es[i]).f0,(es[i]).f1,(es[i]).f3,(es[i]).f4]).bind fun t=>if t.length+2<5864062014805∧(es[i]).f2.size≤9223372036854775807∧(es[i]).f5.size≤9223372036854775807 then((wire_Pack.f k (t++[bytesOf (es[i]).f2,bytesOf (es[i]).f5])).bind fun r=>event_Put.l0 k es (([p,q]++(es.map effB).take i)++[r]) ((i+1:Nat):Int)) else none) (fun k=>?_) ?_
  ·simp only [event_Put.l0];rw [if_pos (by omega),if_pos (by omega),rdT_at hlt,ck_w (by omega)];simp only [if_pos hlen]
  ·refine Ev.bind (nums_ev _ (by simp) (eff_nums hx)) ?_
   refine ck_if ⟨by simp [numsB],by omega,by omega⟩ ?_
   refine Ev.bind (pack_ev _ (by simp [numsB]) (fun t ht=>by have:=eff_texts hx t ht;omega)) ?_
   have:=ih (i+1) (by omega)
   rw [ht] at this
   exact this
theorem evPut_ev (a b:Int) (past:List Int) (es:List S48):Ev (fun k=>event_Put.f k a b past es) (if OkEv a b past es then(evB a b past es,0) else([],1)):=by
 unfold event_Put.f
 refine Ev.bind (evCheck_ev a b past es) ?_
 by_cases hk:OkEv a b past es
 rotate_left
 ·rw [if_neg hk,if_neg hk]
  exact ck_else (by decide) (Ev.now _)
 rw [if_pos hk,if_pos hk]
 refine ck_if rfl ?_
 obtain ⟨h1,h2,h3,h4,h5,h6,h7,h8,h9,h0⟩:=hk
 refine Ev.bind (nums_ev [a,b] (by simp) (dot_nums h1 h2 h3 h4)) ?_
 refine Ev.bind (pack_ev _ (by simp [numsB]) (fun t ht=>by have:=dot_texts h1 h2 h3 h4 t ht;omega)) ?_
 refine Ev.bind (put_ev past) ?_
 have:=evPut_loop es h9 h0 (pack (numsB [a,b])) (putB past) (by have:=dotB_le h1 h2 h3 h4;omega) (by have:=putB_len past;omega) es.length 0 (by omega)
 rw [List.take_zero,List.append_nil] at this
 exact Ev.bind this (Ev.now _)
end Go.Proofs.Ytgocnchjpecafaa.PEv
namespace Go.Proofs.Ytgocnchjpecafaa.PEv
open Go.RowKit Go.Proofs.YtgocnchjpecafaaW.PrintWords Go.Proofs.YtgocnchjpecafaaW.PrintLast Go.Proofs.Ytgocnchjpecafaa.ClockBase Go.Proofs.Ytgocnchjpecafaa.Wr
set_option linter.unusedVariables false
set_option linter.unusedSimpArgs false
end Go.Proofs.Ytgocnchjpecafaa.PEv
namespace Go.Proofs.Ytgocnchjpecafaa.PEv
open Go.RowKit Go.Proofs.YtgocnchjpecafaaW.PrintWords Go.Proofs.YtgocnchjpecafaaW.PrintLast Go.Proofs.Ytgocnchjpecafaa.ClockBase Go.Proofs.Ytgocnchjpecafaa.Wr
set_option linter.unusedVariables false
set_option linter.unusedSimpArgs false
end Go.Proofs.Ytgocnchjpecafaa.PEv
namespace Go.Proofs.Ytgocnchjpecafaa.PEv
open Go.RowKit Go.Proofs.YtgocnchjpecafaaW.PrintWords Go.Proofs.YtgocnchjpecafaaW.PrintLast Go.Proofs.Ytgocnchjpecafaa.ClockBase Go.Proofs.Ytgocnchjpecafaa.Wr
set_option linter.unusedVariables false
set_option linter.unusedSimpArgs false
def OkE (x:S30):Prop:=OkEv x.f0.f0 x.f0.f1 x.f1 x.f2
instance (x:S30):Decidable (OkE x):=by unfold OkE;infer_instance
def evl (x:S30):List Int:=evB x.f0.f0 x.f0.f1 x.f1 x.f2
def ev1 (t:List Int):Option S30:=(evG t).map fun e=>⟨⟨e.1,e.2.1⟩,e.2.2.1,e.2.2.2⟩
theorem ev1_iff {t:List Int} (ht:Wr.Bytes t) (x:S30):ev1 t=some x↔OkE x∧t=evl x:=by
 unfold ev1
 constructor
 ·intro h
  obtain ⟨⟨a,b,p,es⟩,h1,rfl⟩:=Option.map_eq_some_iff.mp h
  exact(evG_iff ht a b p es).mp h1
 ·intro h
  have:=(evG_iff ht x.f0.f0 x.f0.f1 x.f1 x.f2).mpr h
  rw [this]
  rfl
def evsG:List (List Int)→Option (List S30)
 | []=>some []
 | t :: ts=>match ev1 t with|none=>none|some x=>(evsG ts).map (x :: ·)
theorem evsG_iff:∀ {ts:List (List Int)},(∀ t ∈ ts,Wr.Bytes t)→∀ (l:List S30),evsG ts=some l↔(∀ x ∈ l,OkE x)∧ts=l.map evl
 | [],_,l=>by
  unfold evsG
  constructor
  ·intro h
   obtain rfl:=Option.some.inj h
   exact ⟨fun x hx=>(by cases hx),rfl⟩
  ·rintro ⟨_,h⟩
   have:l=[]:=List.map_eq_nil_iff.mp h.symm
   rw [this]
 | t :: ts,ht,l=>by
  have ih:=evsG_iff (fun s hs=>ht s (List.mem_cons_of_mem _ hs))
  unfold evsG
  constructor
  ·intro h
   cases h1:ev1 t with
   | none=>rw [h1] at h;cases h
   | some x =>
    rw [h1] at h
    obtain ⟨m,h2,rfl⟩:=Option.map_eq_some_iff.mp h
    have hx:=(ev1_iff (ht t List.mem_cons_self) x).mp h1
    have hm:=(ih m).mp h2
    refine ⟨fun y hy=>?_,by rw [List.map_cons,←hx.2,←hm.2]⟩
    rcases List.mem_cons.mp hy with rfl|hy
    ·exact hx.1
    ·exact hm.1 y hy
  ·rintro ⟨hk,he⟩
   match l,he with
   | x :: m,he =>
    rw [List.map_cons] at he
    injection he with e1 e2
    have h1:=(ev1_iff (ht t List.mem_cons_self) x).mpr ⟨hk x List.mem_cons_self,e1⟩
    have h2:=(ih m).mpr ⟨fun y hy=>hk y (List.mem_cons_of_mem _ hy),e2⟩
    rw [h1]
    simp only
    rw [h2]
    rfl
def askB (s:Bool):Int:=if s=true then 1 else 0
def letB (c:List Int) (s:Bool) (es:List S30):List Int:=pack ([[askB s],putB c]++es.map evl)
def OkL (c:List Int) (es:List S30):Prop:=okC c=true∧(trim (ofL c)).length=c.length∧es.length≤16∧∀ x ∈ es,OkE x
instance (c:List Int) (es:List S30):Decidable (OkL c es):=by unfold OkL;infer_instance
def letG (b:List Int):Option (List Int×Bool×List S30):=match unpack b 18 with
 | none=>none
 | some (l,n)=>if n=b.length∧2≤l.length∧(l.getD 0 []).length=1∧(l.getD 0 []).getD 0 0≤1 then(match pastD (l.getD 1 []) with
  | none=>none
  | some c=>(evsG (l.drop 2)).map fun es=>(c,decide ((l.getD 0 []).getD 0 0=1),es)) else none
theorem let_texts {c:List Int} {es:List S30} (s:Bool) (h:OkL c es):∀ t ∈ [[askB s],putB c]++es.map evl,t.length≤8300∧Wr.Bytes t:=by
 obtain ⟨h1,h2,h3,h4⟩:=h
 intro t ht
 rcases List.mem_append.mp ht with ht|ht
 ·simp only [List.mem_cons,List.not_mem_nil,or_false] at ht
  rcases ht with rfl|rfl
  ·refine ⟨by simp,fun x hx=>?_⟩
   rw [List.mem_singleton] at hx
   subst hx
   cases s<;>simp [askB]
  ·have:=putB_len c
   exact ⟨by omega,putB_bytes c⟩
 ·obtain ⟨x,hx,rfl⟩:=List.mem_map.mp ht
  have hk:=h4 x hx
  refine ⟨evB_le hk,pack_bytes _ ?_ (fun t ht=>by have:=ev_texts hk t ht;exact ⟨this.2,by omega⟩)⟩
  have:=hk.2.2.2.2.2.2.2.2.1
  simp only [List.length_append,List.length_cons,List.length_nil,List.length_map]
  omega
theorem let_len (c:List Int) (s:Bool) (es:List S30):([[askB s],putB c]++es.map evl).length=es.length+2:=by
 rw [List.length_append,List.length_map];simp only [List.length_cons,List.length_nil];omega
theorem letB_le {c:List Int} {es:List S30} (s:Bool) (h:OkL c es):(letB c s es).length≤200000:=by
 have:=pack_le 8300 (by decide) ([[askB s],putB c]++es.map evl) (by rw [let_len];have:=h.2.2.1;omega) (fun t ht=>(let_texts s h t ht).1)
 rw [let_len] at this
 have h3:=h.2.2.1
 unfold letB
 have h4:(es.length+2)*(8300+9)≤18*(8300+9):=Nat.mul_le_mul_right _ (by omega)
 omega
theorem letB_bytes {c:List Int} {es:List S30} (s:Bool) (h:OkL c es):Wr.Bytes (letB c s es):=by
 refine pack_bytes _ ?_ (fun t ht=>by have:=let_texts s h t ht;exact ⟨this.2,by omega⟩)
 rw [let_len]
 have:=h.2.2.1
 omega
theorem unpack_let {c:List Int} {es:List S30} (s:Bool) (h:OkL c es):unpack (letB c s es) 18=some ([[askB s],putB c]++es.map evl,(letB c s es).length):=by
 have:=unpack_pack ([[askB s],putB c]++es.map evl) (fun t ht=>by have:=let_texts s h t ht;omega) (by rw [let_len];have:=h.2.2.1;omega) 18 (by rw [let_len];have:=h.2.2.1;omega) []
 rw [List.append_nil] at this
 exact this
theorem askB_eq (s:Bool):decide (askB s=1)=s:=by cases s<;>simp [askB]
theorem letG_put {c:List Int} {es:List S30} (s:Bool) (h:OkL c es):letG (letB c s es)=some (c,s,es):=by
 have ht:=let_texts s h
 unfold letG
 rw [unpack_let s h]
 simp only
 rw [if_pos ⟨trivial,by rw [let_len];omega,rfl,(show askB s≤1 by cases s<;>decide)⟩]
 show(match pastD (putB c) with
  | none=>none
  | some c=>(evsG (es.map evl)).map fun es=>(c,decide (askB s=1),es))=_
 rw [pastD_put h.1 h.2.1]
 simp only
 rw [(evsG_iff (fun t hm=>(ht t (List.mem_append_right _ hm)).2) es).mpr ⟨h.2.2.2,rfl⟩,askB_eq]
 rfl
end Go.Proofs.Ytgocnchjpecafaa.PEv
namespace Go.Proofs.Ytgocnchjpecafaa.PEv
open Go.RowKit Go.Proofs.YtgocnchjpecafaaW.PrintWords Go.Proofs.YtgocnchjpecafaaW.PrintLast Go.Proofs.Ytgocnchjpecafaa.ClockBase Go.Proofs.Ytgocnchjpecafaa.Wr
set_option linter.unusedVariables false
set_option linter.unusedSimpArgs false
theorem awake28_ev:Ev (fun k=>w28_awake.f k) true:=by
 have h:∃ k,w28_awake.f k=some true:=⟨40,by decide +kernel⟩
 obtain ⟨n,hn⟩:=h
 refine ⟨n,fun k hk=>?_⟩
 induction hk with
 | refl=>exact hn
 | step _ ih=>exact w28_awake.mono _ _ ih
theorem rd30_at {l:List S30} {i:Nat} (h:i<l.length):rd_T30 l (i:Int)=l[i]:=by
 unfold rd_T30
 rw [Int.toNat_natCast,List.getD_eq_getElem?_getD,List.getElem?_eq_getElem h]
 rfl
theorem goGet_loop (ts:List (List Int)) (hts:ts.length≤1000) (hb:∀ t ∈ ts,t.length≤65536∧Wr.Bytes t) (d:Nat):∀ (i:Nat) (acc:List S30),i+d=ts.length→acc.length=i→Ev (fun k=>gossip_Get.l0 k ts acc (i:Int)) ((evsG (ts.drop i)).map (acc++·)):=by
 induction d with
 | zero =>
  intro i acc hi ho
  rw [List.drop_eq_nil_of_le (by omega)]
  have e:(evsG []).map (acc++·)=some acc:=by simp [evsG]
  rw [e]
  refine Ev.step (f:=fun _=>some (some acc)) (fun k=>?_) (Ev.now _)
  simp only [gossip_Get.l0]
  rw [if_neg (by omega)]
 | succ d ih =>
  intro i acc hi ho
  have hlt:i<ts.length:=by omega
  have ht:=hb _ (List.getElem_mem hlt)
  rw [List.drop_eq_getElem_cons hlt]
  refine Ev.step (f:=fun k=>(event_Get.f k ts[i]).bind fun x=>if x.2.2.2.2=0 then gossip_Get.l0 k ts (acc++[⟨⟨x.1,x.2.1⟩,x.2.2.1,x.2.2.2.1⟩]) ((i+1:Nat):Int) else some none) (fun k=>?_) ?_
  ·simp only [gossip_Get.l0];rw [if_pos (by omega),if_pos (by omega),rdB_at hlt,ck_w (by omega)];simp only [if_pos (show acc.length+1<2199023255552 by omega)]
  ·refine Ev.bind (evGet_ev _ ht.2 (by omega)) ?_
   unfold evsG ev1
   cases hx:evG ts[i] with
   | none=>exact ck_else (by simp [getR,event_Get.fail]) (Ev.now _)
   | some x =>
    refine ck_if rfl ?_
    have h1:=ih (i+1) (acc++[⟨⟨x.1,x.2.1⟩,x.2.2.1,x.2.2.2⟩]) (by omega) (by rw [List.length_append,List.length_singleton];omega)
    simp only [Option.map_some]
    cases hw:evsG (ts.drop (i+1)) with
    | none=>rw [hw] at h1;exact h1
    | some l =>
     rw [hw] at h1
     show Ev (fun k=>gossip_Get.l0 k ts (acc++[⟨⟨x.1,x.2.1⟩,x.2.2.1,x.2.2.2⟩]) ((i+1:Nat):Int)) _
     simpa using h1
def goR (o:Option (List Int×Bool×List S30)):List Int×Bool×List S30×Int:=match o with
 | none=>gossip_Get.fail
 | some e=>(e.1,e.2.1,e.2.2,0)
theorem goGet_ev (b:List Int) (hb:Wr.Bytes b) (hn:b.length≤140737488351232):Ev (fun k=>gossip_Get.f k b) (goR (letG b)):=by
 unfold gossip_Get.f letG
 refine Ev.bind (unpack_ev b hb hn 18 (by decide)) ?_
 unfold packR
 cases hu:unpack b 18 with
 | none=>exact ck_else (by simp) (Ev.now _)
 | some q =>
  obtain ⟨l,n⟩:=q
  have hs:=unpack_some hb hu
  have hB:=hs.2.2.2.2.2
  refine ck_if rfl ?_
  simp only
  by_cases hw:n=b.length
  rotate_left
  ·rw [if_neg (fun h=>hw h.1)]
   exact ck_else (by omega) (Ev.now _)
  refine ck_if (by omega) ?_
  by_cases h2:2≤l.length
  rotate_left
  ·rw [if_neg (fun h=>h2 h.2.1)]
   exact ck_if (by omega) (Ev.now _)
  refine ck_else (by omega) ?_
  obtain ⟨t0,t1,r,rfl⟩:∃ t0 t1 r,l=t0 :: t1 :: r:=by
   match l,h2 with
   | t0 :: t1 :: r,_=>exact ⟨t0,t1,r,rfl⟩
  have b0:=hB t0 (by simp)
  have b1:=hB t1 (by simp)
  simp only [List.getD_cons_zero,List.getD_cons_succ,List.drop_succ_cons,List.drop_zero]
  have e0:Hand.rdB (t0 :: t1 :: r) 0=t0:=rfl
  have e1:Hand.rdB (t0 :: t1 :: r) 1=t1:=rfl
  simp only [e0,e1]
  by_cases h1:t0.length=1
  rotate_left
  ·rw [if_neg (fun h=>h1 h.2.2.1)]
   exact ck_else (by omega) (Ev.now _)
  refine ck_if (by omega) ?_
  obtain ⟨v,rfl⟩:=List.length_eq_one_iff.mp h1
  have ev:rd [v] 0=v:=rfl
  simp only [ev,List.getD_cons_zero]
  by_cases hv:v≤1
  rotate_left
  ·rw [if_neg (fun h=>hv h.2.2.2)]
   exact ck_if (by omega) (Ev.now _)
  refine ck_else (by omega) ?_
  rw [if_pos ⟨hw,h2,h1,hv⟩]
  refine Ev.bind (read_ev t1 b1.2 (by omega)) ?_
  unfold readP pastD
  cases hrd:readB t1 with
  | none=>exact ck_else (by simp) (Ev.now _)
  | some q =>
   obtain ⟨c,j⟩:=q
   refine ck_if rfl ?_
   by_cases hj:j=t1.length
   rotate_left
   ·simp only [if_neg hj]
    exact ck_else (by(try simp only);omega) (Ev.now _)
   refine ck_if (by(try simp only);omega) ?_
   simp only [if_pos hj]
   have hl:=goGet_loop r (by have:=hs.2.1;simp at this;omega) (fun t ht=>hB t (by simp [ht])) r.length 0 [] (by omega) rfl
   rw [List.drop_zero] at hl
   have e:(evsG r).map (([]:List S30)++·)=evsG r:=by cases evsG r<;>rfl
   rw [e] at hl
   refine Ev.bind hl ?_
   cases hx:evsG r with
   | none=>exact Ev.now _
   | some es =>
    refine ev_is ?_
    have:(v == 1)=decide (v=1):=by rw [Bool.eq_iff_iff,beq_iff_eq,decide_eq_true_iff]
    rw [this]
    rfl
theorem goMay1_ev (x:S30):Ev (fun k=>gossip_may_1.f k x.f0.f0 x.f0.f1 x.f1 x.f2) (!decide (OkE x)):=by
 unfold gossip_may_1.f
 refine Ev.bind (evCheck_ev x.f0.f0 x.f0.f1 x.f1 x.f2) ?_
 refine ev_is ?_
 unfold OkE
 by_cases h:OkEv x.f0.f0 x.f0.f1 x.f1 x.f2
 ·rw [if_pos h,decide_eq_true h];rfl
 ·rw [if_neg h,decide_eq_false h];rfl
def allOk (l:List S30):Bool:=l.all fun x=>decide (OkE x)
theorem allOk_iff {l:List S30}:allOk l=true↔∀ x ∈ l,OkE x:=by
 unfold allOk
 rw [List.all_eq_true]
 exact ⟨fun h x hx=>of_decide_eq_true (h x hx),fun h x hx=>decide_eq_true (h x hx)⟩
theorem allOk_cons (x:S30) (l:List S30):allOk (x :: l)=(decide (OkE x) && allOk l):=by unfold allOk;rw [List.all_cons]
theorem goAny_ev:∀ (l:List S30),Ev (fun k=>api_Event_101.f k l) (!allOk l)
 | []=>by
  unfold api_Event_101.f
  exact Ev.now _
 | x :: l=>by
  have ih:=goAny_ev l
  unfold api_Event_101.f
  refine Ev.bind (goMay1_ev x) ?_
  rw [allOk_cons]
  by_cases h:OkE x
  ·rw [decide_eq_true h,Bool.true_and]
   exact ck_else (by decide) ih
  ·rw [decide_eq_false h,Bool.false_and]
   exact ck_if rfl (Ev.now _)
theorem goMay_ev (c:List Int) (s:Bool) (es:List S30):Ev (fun k=>gossip_may.f k c s es) (decide (OkL c es)):=by
 unfold gossip_may.f
 refine Ev.bind (ev_is rfl) ?_
 by_cases h1:okC c=true
 rotate_left
 ·rw [if_neg h1]
  rw [decide_eq_false (fun h:OkL c es=>h1 h.1)]
  exact ck_else (by decide) (Ev.now _)
 rw [if_pos h1]
 refine ck_if rfl ?_
 refine Ev.bind (ev_is rfl) ?_
 by_cases h2:(trim (ofL c)).length=c.length
 rotate_left
 ·rw [decide_eq_false (fun h:OkL c es=>h2 h.2.1)]
  exact ck_else (by omega) (Ev.now _)
 refine ck_if (by omega) ?_
 by_cases h3:es.length≤16
 rotate_left
 ·rw [decide_eq_false (fun h:OkL c es=>h3 h.2.2.1)]
  exact ck_else (by omega) (Ev.now _)
 refine ck_if (by omega) ?_
 refine Ev.bind (goAny_ev es) ?_
 refine ev_is ?_
 rw [Bool.not_not,Option.some.injEq,Bool.eq_iff_iff,decide_eq_true_iff,allOk_iff]
 exact ⟨fun h=>⟨h1,h2,h3,h⟩,fun h=>h.2.2.2⟩
theorem refMay28_loop (c:List Int) (s:Bool) (es:List S30) (hc:c.length≤140737488355328) (hn:es.length≤140737488355328) (hp:∀ x ∈ es,x.f1.length≤140737488355328∧x.f2.length≤140737488355328) (d:Nat):∀ (i:Nat),i+d=es.length→Ev (fun k=>r28_May.l0 k (i:Int) c s es) (allOk (es.drop i) && decide (okC c=true∧(trim (ofL c)).length=c.length∧es.length≤16)):=by
 induction d with
 | zero =>
  intro i hi
  rw [List.drop_eq_nil_of_le (by omega)]
  refine Ev.step (f:=fun k=>(r03_May.f k c).bind fun t578=>(if t578=true then((r03_Plain.f k c).bind fun t579=>((r03_Same.f k t579 c).bind fun t582=>(if t582=true then(some (decide ((es.length:Int)≤16))) else(some false)))) else(some false))) (fun k=>?_) ?_
  ·simp only [r28_May.l0];rw [if_neg (by omega)]
  ·rw [show allOk []=true from rfl,Bool.true_and]
   refine Ev.bind (may_ev c hc) ?_
   by_cases h1:okC c=true
   rotate_left
   ·rw [decide_eq_false (fun h:okC c=true∧(trim (ofL c)).length=c.length∧es.length≤16=>h1 h.1)]
    exact ck_else h1 (Ev.now _)
   refine ck_if h1 ?_
   refine Ev.bind (plain_ev c hc) ?_
   refine Ev.bind (same_ev _ c (trim_five (good_of c))) ?_
   by_cases h2:(trim (ofL c)).length=c.length
   rotate_left
   ·rw [decide_eq_false (fun h:okC c=true∧(trim (ofL c)).length=c.length∧es.length≤16=>h2 h.2.1)]
    exact ck_else (fun h=>h2 (congrArg List.length (of_decide_eq_true h))) (Ev.now _)
   refine ck_if (decide_eq_true (plain_self h1 h2)) ?_
   refine ev_is ?_
   rw [Option.some.injEq,decide_eq_decide]
   exact ⟨fun h=>⟨h1,h2,by omega⟩,fun h=>by have:=h.2.2;omega⟩
 | succ d ih =>
  intro i hi
  have hlt:i<es.length:=by omega
  have hx:=hp _ (List.getElem_mem hlt)
  rw [List.drop_eq_getElem_cons hlt]
  have er:rd_T30 es (i:Int)=es[i]:=rd30_at hlt
  refine Ev.step (f:=fun k=>(r05_May.f k (es[i]).f0.f0 (es[i]).f0.f1 (es[i]).f1 (es[i]).f2).bind fun t=>(if t=true then(r28_May.l0 k ((i+1:Nat):Int) c s es) else(some false))) (fun k=>?_) ?_
  ·simp only [r28_May.l0];rw [if_pos (by omega),if_pos (by omega),er,ck_w (by omega)]
  ·refine Ev.bind (refMay_ev _ _ _ _ hx.1 hx.2) ?_
   rw [allOk_cons]
   by_cases h:OkE es[i]
   ·refine ck_if (decide_eq_true h) ?_
    rw [decide_eq_true h,Bool.true_and]
    exact ih (i+1) (by omega)
   ·refine ck_else (fun hh=>h (of_decide_eq_true hh)) ?_
    rw [decide_eq_false h,Bool.false_and,Bool.false_and]
    exact Ev.now _
theorem refMay28_ev (c:List Int) (s:Bool) (es:List S30) (hc:c.length≤140737488355328) (hn:es.length≤140737488355328) (hp:∀ x ∈ es,x.f1.length≤140737488355328∧x.f2.length≤140737488355328):Ev (fun k=>r28_May.f k c s es) (decide (OkL c es)):=by
 have:=refMay28_loop c s es hc hn hp es.length 0 (by omega)
 rw [List.drop_zero] at this
 have e:(allOk es && decide (okC c=true∧(trim (ofL c)).length=c.length∧es.length≤16))=decide (OkL c es):=by
  rw [Bool.eq_iff_iff,Bool.and_eq_true,allOk_iff,decide_eq_true_iff,decide_eq_true_iff]
  exact ⟨fun h=>⟨h.2.1,h.2.2.1,h.2.2.2,h.1⟩,fun h=>⟨h.2.2.2,h.1,h.2.1,h.2.2.1⟩⟩
 rw [e] at this
 exact this
theorem goPut_loop (es:List S30) (hes:es.length≤16) (hk:∀ x ∈ es,OkE x) (p q:List Int) (hp:p.length≤447) (hq:q.length≤447) (d:Nat):∀ (i:Nat),i+d=es.length→Ev (fun k=>gossip_Put.l0 k ([p,q]++(es.map evl).take i) es (es.length:Int) (i:Int)) (pack ([p,q]++es.map evl),0):=by
 have hn:(es.map evl).length=es.length:=by rw [List.length_map]
 induction d with
 | zero =>
  intro i hi
  obtain rfl:i=es.length:=by omega
  have e:(es.map evl).take es.length=es.map evl:=by rw [←hn,List.take_length]
  rw [e]
  refine Ev.step (f:=fun k=>(wire_Pack.f k ([p,q]++es.map evl)).bind fun t=>some (t,0)) (fun k=>?_) (Ev.bind ?_ (Ev.now _))
  ·simp only [gossip_Put.l0];rw [if_neg (by omega)]
  ·refine pack_ev _ yem_1 (fun t ht=>?_)
   rcases List.mem_append.mp ht with ht|ht
   ·exact yem_0
   ·obtain ⟨x,hx,rfl⟩:=List.mem_map.mp ht
    have:(evl x).length≤8300:=evB_le (hk x hx)
    omega
 | succ d ih =>
  intro i hi
  have hlt:i<es.length:=by omega
  have hx:=hk _ (List.getElem_mem hlt)
  have hlen:([p,q]++(es.map evl).take i).length<5864062014805:=by rw [List.length_append,List.length_take];simp only [List.length_cons,List.length_nil];omega
  have ht:[p,q]++(es.map evl).take (i+1)=([p,q]++(es.map evl).take i)++[evl es[i]]:=by
   rw [List.take_add_one,List.getElem?_eq_getElem (by omega)]
   simp
  have er:rd_T30 es (i:Int)=es[i]:=rd30_at hlt
  refine Ev.step (f:=fun k=>(event_Put.f k (es[i]).f0.f0 (es[i]).f0.f1 (es[i]).f1 (es[i]).f2).bind fun r=>gossip_Put.l0 k (([p,q]++(es.map evl).take i)++[r.1]) es (es.length:Int) ((i+1:Nat):Int)) (fun k=>?_) ?_
  ·simp only [gossip_Put.l0];rw [if_pos (by omega),if_pos (by omega),if_pos (by omega),er,ck_w (by omega)];simp only [if_pos hlen]
  ·refine Ev.bind (evPut_ev _ _ _ _) ?_
   have:=ih (i+1) (by omega)
   rw [ht] at this
   rw [if_pos (show OkEv _ _ _ _ from hx)]
   exact this
theorem goPut_ev (c:List Int) (s:Bool) (es:List S30):Ev (fun k=>gossip_Put.f k c s es) (if OkL c es then(letB c s es,0) else([],1)):=by
 unfold gossip_Put.f
 refine Ev.bind (goMay_ev c s es) ?_
 by_cases hk:OkL c es
 rotate_left
 ·rw [if_neg hk]
  exact ck_else (fun h=>hk (of_decide_eq_true h)) (Ev.now _)
 rw [if_pos hk]
 refine ck_if (decide_eq_true hk) ?_
 have key:Ev (fun k=>gossip_Put.j0 k [askB s] c s es) (letB c s es,0):=by
  refine Ev.step (f:=fun k=>(clock_Put.f k c).bind fun t557=>(gossip_Put.l0 k (([[askB s],t557]:List (List Int))) es (es.length:Int) 0)) (fun k=>rfl) ?_
  refine Ev.bind (put_ev c) ?_
  have:=goPut_loop es hk.2.2.1 hk.2.2.2 [askB s] (putB c) (by simp) (by have:=putB_len c;omega) es.length 0 (by omega)
  rw [List.take_zero,List.append_nil] at this
  exact this
 refine Ev.bind (ev_is rfl) ?_
 cases s with
 | true =>
  refine ck_if rfl ?_
  refine ck_if (by decide) ?_
  exact key
 | false=>exact ck_else (by decide) key
theorem refPut28_loop (c:List Int) (s:Bool) (es:List S30) (hes:es.length≤16) (hk:∀ x ∈ es,OkE x) (p q:List Int) (hp:p.length≤447) (hq:q.length≤447) (d:Nat):∀ (i:Nat),i+d=es.length→Ev (fun k=>r28_Put.l0 k ([p,q]++(es.map evl).take i) (i:Int) c s es) (pack ([p,q]++es.map evl)):=by
 have hn:(es.map evl).length=es.length:=by rw [List.length_map]
 induction d with
 | zero =>
  intro i hi
  obtain rfl:i=es.length:=by omega
  have e:(es.map evl).take es.length=es.map evl:=by rw [←hn,List.take_length]
  rw [e]
  refine Ev.step (f:=fun k=>(r02_Pack.f k ([p,q]++es.map evl)).bind fun t=>some t) (fun k=>?_) (Ev.bind ?_ (Ev.now _))
  ·simp only [r28_Put.l0];rw [if_neg (by omega)]
  ·refine refPack_ev _ yem_1 (fun t ht=>?_)
   rcases List.mem_append.mp ht with ht|ht
   ·exact yem_0
   ·obtain ⟨x,hx,rfl⟩:=List.mem_map.mp ht
    have:(evl x).length≤8300:=evB_le (hk x hx)
    omega
 | succ d ih =>
  intro i hi
  have hlt:i<es.length:=by omega
  have hx:=hk _ (List.getElem_mem hlt)
  have hlen:([p,q]++(es.map evl).take i).length<5864062014805:=by rw [List.length_append,List.length_take];simp only [List.length_cons,List.length_nil];omega
  have ht:[p,q]++(es.map evl).take (i+1)=([p,q]++(es.map evl).take i)++[evl es[i]]:=by
   rw [List.take_add_one,List.getElem?_eq_getElem (by omega)]
   simp
  have er:rd_T30 es (i:Int)=es[i]:=rd30_at hlt
  refine Ev.step (f:=fun k=>(r05_Put.f k (es[i]).f0.f0 (es[i]).f0.f1 (es[i]).f1 (es[i]).f2).bind fun r=>r28_Put.l0 k (([p,q]++(es.map evl).take i)++[r]) ((i+1:Nat):Int) c s es) (fun k=>?_) ?_
  ·simp only [r28_Put.l0];rw [if_pos (by omega),if_pos (by omega),er,ck_w (by omega)];simp only [if_pos hlen]
  ·refine Ev.bind (refEvPut_ev hx) ?_
   have:=ih (i+1) (by omega)
   rw [ht] at this
   exact this
theorem refPut28_ev {c:List Int} {es:List S30} (s:Bool) (hk:OkL c es):Ev (fun k=>r28_Put.f k c s es) (letB c s es):=by
 have key:Ev (fun k=>r28_Put.j0 k (askB s) c s es) (letB c s es):=by
  refine Ev.step (f:=fun k=>(r03_Put.f k c).bind fun t557=>(r28_Put.l0 k (([[askB s],t557]:List (List Int))) 0 c s es)) (fun k=>rfl) ?_
  refine Ev.bind (refPut_ev c (by have:=(okC_iff.mp hk.1).1;omega)) ?_
  have:=refPut28_loop c s es hk.2.2.1 hk.2.2.2 [askB s] (putB c) (by simp) (by have:=putB_len c;omega) es.length 0 (by omega)
  rw [List.take_zero,List.append_nil] at this
  exact this
 unfold r28_Put.f
 cases s with
 | true=>exact ck_if rfl key
 | false=>exact ck_else (by decide) key
end Go.Proofs.Ytgocnchjpecafaa.PEv
