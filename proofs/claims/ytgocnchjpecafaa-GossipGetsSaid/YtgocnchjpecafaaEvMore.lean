/- a part -/
import Derived.Test.YtgocnchjpecafaaEvPure
import Derived.Test.YtgocnchjpecafaaPEvx27
import Derived.Test.YtgocnchjpecafaaPEvx29
theorem yem_0 {P:Prop} (h:P:=by rw [List.length_append,List.length_singleton];omega):P:=h
theorem yem_1 {P:Prop} (h:P:=by(try simp only);omega):P:=h
namespace Go.Proofs.Ytgocnchjpecafaa.PEv
open Go.RowKit Go.Proofs.YtgocnchjpecafaaW.PrintWords Go.Proofs.YtgocnchjpecafaaW.PrintLast Go.Proofs.Ytgocnchjpecafaa.ClockBase Go.Proofs.Ytgocnchjpecafaa.Wr
set_option linter.unusedVariables false
set_option linter.unusedSimpArgs false
end Go.Proofs.Ytgocnchjpecafaa.PEv
namespace Go.Proofs.Ytgocnchjpecafaa.PEv
open Go.RowKit Go.Proofs.YtgocnchjpecafaaW.PrintWords Go.Proofs.YtgocnchjpecafaaW.PrintLast Go.Proofs.Ytgocnchjpecafaa.ClockBase Go.Proofs.Ytgocnchjpecafaa.Wr
set_option linter.unusedVariables false
set_option linter.unusedSimpArgs false
def effA (t:List Int):Option S48:=match unpack t 6 with
 | none=>none
 | some (p,_)=>effP p
def effsA:List (List Int)->Option (List S48)
 | []=>some []
 | t :: ts=>match effA t with|none=>none|some x=>match effsA ts with|none=>none|some l=>some (x :: l)
def dotA (t:List Int):Option (List Int):=match unpack t 2 with
 | none=>none
 | some (d,_)=>if d.length=2 then wholes d else none
def evA (b:List Int):Option (Int×Int×List Int×List S48):=match unpack b 18 with
 | none=>none
 | some (l,n)=>if 3<=l.length then(match dotA (l.getD 0 []) with
  | none=>none
  | some ns=>(effsA (l.drop 2)).map λes=>(ns.getD 0 0,ns.getD 1 0,(readQ (l.getD 1 [])).1,es)) else none
theorem four_loop (p:List (List Int)) (hp:p.length=6) (hb:∀ t ∈ p,t.length<=65536/\Wr.Bytes t) (d:Nat):∀ (i:Nat) (ns:List Int),i+d=4->ns.length=i->Ev (λk=>r05_Get.l1 k p ns (i:Int)) ((wholes ((p.take 4).drop i)).map (ns++·)):=by
 have hl4:(p.take 4).length=4:=by rw [List.length_take];omega
 induction d with
 | zero =>
  intro i ns hi ho
  rw [List.drop_eq_nil_of_le (by omega)]
  have e:(wholes []).map (ns++·)=some ns:=by simp [wholes]
  rw [e]
  refine Ev.step (f:=λ_=>some (some ns)) (λk=>?_) (Ev.now _)
  simp only [r05_Get.l1]
  rw [if_neg (by omega)]
 | succ d ih =>
  intro i ns hi ho
  have hlt:i<p.length:=by omega
  have ht:=hb _ (List.getElem_mem hlt)
  rw [List.drop_eq_getElem_cons (show i<(p.take 4).length by omega),List.getElem_take]
  refine Ev.step (f:=λk=>(r05_number.f k p[i]).bind λx=>if x.2=true then r05_Get.l1 k p (ns++[x.1]) ((i+1:Nat):Int) else some none) (λk=>?_) ?_
  ·simp only [r05_Get.l1];rw [if_pos (by omega),if_pos (by omega),rdB_at hlt,ck_w (by omega)];simp only [if_pos (show ns.length<17592186044416 by omega)]
  ·refine Ev.bind (number_ev _ ht.2 (by omega)) ?_
   unfold wholes
   cases hx:whole1 p[i] with
   | none=>exact ck_else (by simp [numberR]) (Ev.now _)
   | some x =>
    refine ck_if rfl ?_
    have h1:=ih (i+1) (ns++[x]) (by omega) yem_0
    cases hw:wholes ((p.take 4).drop (i+1)) with
    | none=>rw [hw] at h1;exact h1
    | some l =>
     rw [hw] at h1
     show Ev (λk=>r05_Get.l1 k p (ns++[x]) ((i+1:Nat):Int)) _
     simpa using h1
theorem effs_loop (l:List (List Int)) (hl:l.length<=1000) (hb:∀ t ∈ l,t.length<=65536/\Wr.Bytes t) (d:Nat):∀ (i:Nat) (acc:List S48),i+d=l.length->acc.length+2=i->Ev (λk=>r05_Get.l0 k l acc (i:Int)) ((effsA (l.drop i)).map (acc++·)):=by
 induction d with
 | zero =>
  intro i acc hi ho
  rw [List.drop_eq_nil_of_le (by omega)]
  have e:(effsA []).map (acc++·)=some acc:=by simp [effsA]
  rw [e]
  refine Ev.step (f:=λ_=>some (some acc)) (λk=>?_) (Ev.now _)
  simp only [r05_Get.l0]
  rw [if_neg (by omega)]
 | succ d ih =>
  intro i acc hi ho
  have hlt:i<l.length:=by omega
  have ht:=hb _ (List.getElem_mem hlt)
  rw [List.drop_eq_getElem_cons hlt]
  refine Ev.step (f:=λk=>(r02_Unpack.f k l[i] 6).bind λx=>if (x.1.length:Int)=6 then((r05_Get.l1 k x.1 [] 0).bind λo=>match o with
   | none=>some none
   | some ns=>if 3<(ns.length:Int) then r05_Get.l0 k l (acc++[(⟨rd ns 0,rd ns 1,strOfNums (Hand.rdB x.1 4),rd ns 2,rd ns 3,strOfNums (Hand.rdB x.1 5)⟩:S48)]) ((i+1:Nat):Int) else none) else some none) (λk=>?_) ?_
  ·simp only [r05_Get.l0];rw [if_pos (by omega),if_pos (by omega),rdB_at hlt,ck_w (by omega)];simp only [if_pos (show acc.length<2199023255552 by omega)];rfl
  ·refine Ev.bind (refUnpack_ev _ ht.2 (by omega) 6 (by decide)) ?_
   unfold packR2 effsA effA
   cases hu:unpack l[i] 6 with
   | none=>exact ck_else (by simp) (Ev.now _)
   | some q =>
    obtain ⟨p,n⟩:=q
    have hs:=(unpack_some ht.2 hu).2.2.2.2.2
    unfold effP
    by_cases h6:p.length=6
    rotate_left
    ·simp only [if_neg h6]
     exact ck_else yem_1 (Ev.now _)
    simp only [if_pos h6]
    refine ck_if yem_1 ?_
    have h4:=four_loop p h6 hs 4 0 [] (by omega) rfl
    rw [List.drop_zero] at h4
    refine Ev.bind h4 ?_
    cases hw:wholes (p.take 4) with
    | none=>exact Ev.now _
    | some ns =>
     have hln:ns.length=4:=by rw [wholes_len hw,List.length_take];omega
     obtain ⟨n0,n1,n2,n3,rfl⟩:=list4 hln
     refine ck_if (by simp) ?_
     obtain ⟨a,b,c,d',f,g,rfl⟩:=list6 h6
     have h1:=ih (i+1) (acc++[(⟨n0,n1,strOfNums f,n2,n3,strOfNums g⟩:S48)]) (by omega) yem_0
     show Ev (λk=>r05_Get.l0 k l (acc++[(⟨n0,n1,strOfNums f,n2,n3,strOfNums g⟩:S48)]) ((i+1:Nat):Int)) _
     cases hw2:effsA (l.drop (i+1)) with
     | none=>rw [hw2] at h1;simpa using h1
     | some m =>
      rw [hw2] at h1
      simpa using h1
theorem readQ_len (t:List Int):(readQ t).1.length<=140737488355328:=by
 unfold readQ
 cases h:readB t with
 | none=>simp
 | some q =>
  obtain ⟨c,n⟩:=q
  unfold readB at h
  cases hu:unpack t 5 with
  | none=>rw [hu] at h;cases h
  | some q =>
   obtain ⟨ts,m⟩:=q
   rw [hu] at h
   simp only at h
   cases hw:wholes ts with
   | none=>rw [hw] at h;cases h
   | some c' =>
    rw [hw] at h
    simp only at h
    split at h
    ·rename_i hc
     have hh:=Option.some.inj h
     injection hh with e1 e2
     subst e1
     have:=plain_len c'
     simp only
     omega
    ·cases h
theorem effsA_len:∀ {ts:List (List Int)} {l:List S48},effsA ts=some l->l.length=ts.length
 | [],l,h=>by obtain rfl:=Option.some.inj h;rfl
 | t :: ts,l,h=>by
  unfold effsA at h
  cases h1:effA t with
  | none=>rw [h1] at h;cases h
  | some n =>
   rw [h1] at h
   simp only at h
   cases h2:effsA ts with
   | none=>rw [h2] at h;cases h
   | some m =>
    rw [h2] at h
    obtain rfl:=Option.some.inj h
    simp [effsA_len h2]
def evH (b:List Int):Option (Int×Int×List Int×List S48):=match evA b with
 | none=>none
 | some e=>if OkEv e.1 e.2.1 e.2.2.1 e.2.2.2/\evB e.1 e.2.1 e.2.2.1 e.2.2.2=b then some e else none
def getR2 (o:Option (Int×Int×List Int×List S48)):Int×Int×List Int×List S48×Bool:=match o with
 | none=>r05_Get.fail
 | some e=>(e.1,e.2.1,e.2.2.1,e.2.2.2,true)
theorem refEvGet_ev (b:List Int) (hb:Wr.Bytes b) (hn:b.length<=140737488351232):Ev (λk=>r05_Get.f k b) (getR2 (evH b)):=by
 unfold r05_Get.f evH evA
 refine Ev.bind (refUnpack_ev b hb hn 18 (by decide)) ?_
 unfold packR2
 cases hu:unpack b 18 with
 | none=>exact ck_if (by simp) (Ev.now _)
 | some q =>
  obtain ⟨l,n⟩:=q
  have hs:=unpack_some hb hu
  have hB:=hs.2.2.2.2.2
  by_cases h3:3<=l.length
  rotate_left
  ·simp only [if_neg h3]
   exact ck_if yem_1 (Ev.now _)
  refine ck_else yem_1 ?_
  simp only [if_pos h3]
  obtain ⟨t0,t1,r,rfl⟩:∃ t0 t1 r,l=t0 :: t1 :: r:=by
   match l,h3 with
   | t0 :: t1 :: r,_=>exact ⟨t0,t1,r,rfl⟩
  have b0:=hB t0 (by simp)
  have b1:=hB t1 (by simp)
  simp only [List.getD_cons_zero,List.getD_cons_succ,List.drop_succ_cons,List.drop_zero]
  have e0:Hand.rdB (t0 :: t1 :: r) 0=t0:=rfl
  have e1:Hand.rdB (t0 :: t1 :: r) 1=t1:=rfl
  simp only [e0,e1]
  refine Ev.bind (refUnpack_ev t0 b0.2 (by omega) 2 (by decide)) ?_
  unfold packR2 dotA
  cases hd:unpack t0 2 with
  | none=>exact ck_else (by simp) (Ev.now _)
  | some q =>
   obtain ⟨ds,m⟩:=q
   have hs2:=(unpack_some b0.2 hd).2.2.2.2.2
   by_cases h2:ds.length=2
   rotate_left
   ·simp only [if_neg h2]
    exact ck_else yem_1 (Ev.now _)
   refine ck_if yem_1 ?_
   simp only [if_pos h2]
   obtain ⟨d0,d1,rfl⟩:=list2 h2
   have c0:=hs2 d0 (by simp)
   have c1:=hs2 d1 (by simp)
   have e2:Hand.rdB [d0,d1] 0=d0:=rfl
   have e3:Hand.rdB [d0,d1] 1=d1:=rfl
   simp only [e2,e3]
   refine Ev.bind (number_ev d0 c0.2 (by omega)) ?_
   refine Ev.bind (number_ev d1 c1.2 (by omega)) ?_
   refine Ev.bind (refRead_ev t1 b1.2 (by omega)) ?_
   unfold wholes wholes wholes
   cases hw0:whole1 d0 with
   | none=>exact ck_else (by simp [numberR]) (Ev.now _)
   | some n0 =>
    refine ck_if rfl ?_
    cases hw1:whole1 d1 with
    | none=>exact ck_else (by simp [numberR]) (Ev.now _)
    | some n1 =>
     refine ck_if rfl ?_
     have hl:=effs_loop (t0 :: t1 :: r) (by have:=hs.2.1;omega) hB r.length 2 [] (by simp;omega) rfl
     have e4:(effsA ((t0 :: t1 :: r).drop 2)).map (([]:List S48)++·)=effsA r:=by
      show(effsA r).map _=effsA r
      cases effsA r<;>rfl
     rw [e4] at hl
     refine Ev.bind hl ?_
     cases hx:effsA r with
     | none=>exact Ev.now _
     | some es =>
      have hes:=effsA_len hx
      have hr:r.length<=18:=by have:=hs.2.1;simp at this;omega
      refine Ev.bind (refMay_ev n0 n1 (readQ t1).1 es (readQ_len t1) (by omega)) ?_
      by_cases hk:OkEv n0 n1 (readQ t1).1 es
      rotate_left
      ·refine ck_else (by rw [decide_eq_false hk];decide) ?_
       have e5:(if OkEv n0 n1 (readQ t1).1 es/\evB n0 n1 (readQ t1).1 es=b then some (n0,n1,(readQ t1).1,es) else none)=none:=if_neg (λh=>hk h.1)
       exact ev_is (congrArg (λo=>some (getR2 o)) e5.symm)
      refine ck_if (decide_eq_true hk) ?_
      refine Ev.bind (refEvPut_ev hk) ?_
      refine Ev.bind (eq_ev (evB n0 n1 (readQ t1).1 es) b (by have:=evB_le hk;omega)) ?_
      by_cases hq:evB n0 n1 (readQ t1).1 es=b
      ·refine ck_if (decide_eq_true hq) ?_
       have e5:(if OkEv n0 n1 (readQ t1).1 es/\evB n0 n1 (readQ t1).1 es=b then some (n0,n1,(readQ t1).1,es) else none)=some (n0,n1,(readQ t1).1,es):=if_pos ⟨hk,hq⟩
       exact ev_is (congrArg (λo=>some (getR2 o)) e5.symm)
      ·refine ck_else (show ¬ decide (evB n0 n1 (readQ t1).1 es=b)=true by rw [decide_eq_false hq];decide) ?_
       have e5:(if OkEv n0 n1 (readQ t1).1 es/\evB n0 n1 (readQ t1).1 es=b then some (n0,n1,(readQ t1).1,es) else none)=none:=if_neg (λh=>hq h.2)
       exact ev_is (congrArg (λo=>some (getR2 o)) e5.symm)
end Go.Proofs.Ytgocnchjpecafaa.PEv
namespace Go.Proofs.Ytgocnchjpecafaa.PEv
open Go.RowKit Go.Proofs.YtgocnchjpecafaaW.PrintWords Go.Proofs.YtgocnchjpecafaaW.PrintLast Go.Proofs.Ytgocnchjpecafaa.ClockBase Go.Proofs.Ytgocnchjpecafaa.Wr
set_option linter.unusedVariables false
set_option linter.unusedSimpArgs false
theorem effA_of {t:List Int} {x:S48} (h:effD t=some x):effA t=some x:=by
 unfold effD at h
 unfold effA
 cases hu:unpack t 6 with
 | none=>rw [hu] at h;cases h
 | some q =>
  rw [hu] at h
  simp only at h
  split at h
  ·exact h
  ·cases h
theorem effsA_of:∀ {ts:List (List Int)} {l:List S48},effsD ts=some l->effsA ts=some l
 | [],l,h=>h
 | t :: ts,l,h=>by
  unfold effsD at h
  unfold effsA
  cases h1:effD t with
  | none=>rw [h1] at h;cases h
  | some n =>
   rw [h1] at h
   rw [effA_of h1]
   simp only at h ⊢
   cases h2:effsD ts with
   | none=>rw [h2] at h;cases h
   | some m =>
    rw [h2] at h
    rw [effsA_of h2]
    exact h
theorem dotA_of {t:List Int} {ns:List Int} (h:dotD t=some ns):dotA t=some ns:=by
 unfold dotD at h
 unfold dotA
 cases hu:unpack t 2 with
 | none=>rw [hu] at h;cases h
 | some q =>
  rw [hu] at h
  simp only at h ⊢
  split at h
  ·rename_i hn
   rw [if_pos hn.2]
   exact h
  ·cases h
theorem readQ_of {t c:List Int} (h:pastD t=some c):(readQ t).1=c:=by
 unfold pastD at h
 unfold readQ
 cases hu:readB t with
 | none=>rw [hu] at h;cases h
 | some q =>
  rw [hu] at h
  simp only at h ⊢
  split at h
  ·exact Option.some.inj h
  ·cases h
theorem evA_of {b:List Int} {e:Int×Int×List Int×List S48} (h:evD b=some e):evA b=some e:=by
 unfold evD at h
 unfold evA
 cases hu:unpack b 18 with
 | none=>rw [hu] at h;cases h
 | some q =>
  obtain ⟨l,n⟩:=q
  rw [hu] at h
  simp only at h ⊢
  split at h
  ·rename_i hn
   rw [if_pos hn.2]
   cases h1:dotD (l.getD 0 []) with
   | none=>rw [h1] at h;cases h
   | some ns =>
    rw [h1] at h
    rw [dotA_of h1]
    simp only at h ⊢
    cases h2:pastD (l.getD 1 []) with
    | none=>rw [h2] at h;cases h
    | some past =>
     rw [h2] at h
     simp only at h
     rw [readQ_of h2]
     cases h3:effsD (l.drop 2) with
     | none=>rw [h3] at h;cases h
     | some es =>
      rw [h3] at h
      rw [effsA_of h3]
      exact h
  ·cases h
theorem evH_eq {b:List Int} (hb:Wr.Bytes b):evH b=evG b:=by
 cases hg:evG b with
 | some e =>
  obtain ⟨x,y,past,es⟩:=e
  obtain ⟨hk,he⟩:=(evG_iff hb x y past es).mp hg
  have hd:evD b=some (x,y,past,es):=by rw [he];exact evD_put hk
  unfold evH
  rw [evA_of hd]
  exact if_pos ⟨hk,he.symm⟩
 | none =>
  unfold evH
  cases ha:evA b with
  | none=>rfl
  | some e =>
   obtain ⟨x,y,past,es⟩:=e
   refine if_neg λh=>?_
   have:=(evG_iff hb x y past es).mpr ⟨h.1,h.2.symm⟩
   rw [hg] at this
   cases this
theorem evSame_loop (a b:Int) (past:List Int) (es:List S48) (hn:es.length<=140737488355328) (d:Nat):∀ (i:Nat),i+d=es.length->Ev (λk=>r05_Same.l0 k (i:Int) a b past es a b past es) true:=by
 induction d with
 | zero =>
  intro i hi
  refine Ev.step (f:=λ_=>some true) (λk=>?_) (Ev.now _)
  simp only [r05_Same.l0]
  rw [if_neg (by omega)]
 | succ d ih =>
  intro i hi
  refine Ev.step (f:=λk=>r05_Same.l0 k ((i+1:Nat):Int) a b past es a b past es) (λk=>?_) (ih (i+1) (by omega))
  simp only [r05_Same.l0]
  rw [if_pos (by omega),if_pos (by omega),if_pos (by omega),if_neg (by simp),ck_w (by omega)]
theorem evSame_ev (a b:Int) (past:List Int) (es:List S48) (hp:past.length<=140737488355328) (hn:es.length<=140737488355328):Ev (λk=>r05_Same.f k a b past es a b past es) true:=by
 unfold r05_Same.f
 refine ck_else (by simp) ?_
 refine Ev.bind (same_yes past hp) ?_
 refine ck_if rfl ?_
 have e:((es.length:Int) != (es.length:Int))=false:=by simp
 rw [e]
 exact Ev.step (f:=λk=>r05_Same.l0 k 0 a b past es a b past es) (λk=>rfl) (evSame_loop a b past es hn es.length 0 (by omega))
end Go.Proofs.Ytgocnchjpecafaa.PEv
namespace Go.Proofs.Ytgocnchjpecafaa.PEv
open Go.RowKit Go.Proofs.YtgocnchjpecafaaW.PrintWords Go.Proofs.YtgocnchjpecafaaW.PrintLast Go.Proofs.Ytgocnchjpecafaa.ClockBase Go.Proofs.Ytgocnchjpecafaa.Wr
set_option linter.unusedVariables false
set_option linter.unusedSimpArgs false
def OkE (x:S30):Prop:=OkEv x.f0.f0 x.f0.f1 x.f1 x.f2
instance (x:S30):Decidable (OkE x):=by unfold OkE;infer_instance
def evl (x:S30):List Int:=evB x.f0.f0 x.f0.f1 x.f1 x.f2
def ev1 (t:List Int):Option S30:=(evG t).map λe=>⟨⟨e.1,e.2.1⟩,e.2.2.1,e.2.2.2⟩
theorem ev1_iff {t:List Int} (ht:Wr.Bytes t) (x:S30):ev1 t=some x↔OkE x/\t=evl x:=by
 unfold ev1
 constructor
 ·intro h
  obtain ⟨⟨a,b,p,es⟩,h1,rfl⟩:=Option.map_eq_some_iff.mp h
  exact(evG_iff ht a b p es).mp h1
 ·intro h
  have:=(evG_iff ht x.f0.f0 x.f0.f1 x.f1 x.f2).mpr h
  rw [this]
  rfl
def evsG:List (List Int)->Option (List S30)
 | []=>some []
 | t :: ts=>match ev1 t with|none=>none|some x=>(evsG ts).map (x :: ·)
theorem evsG_iff:∀ {ts:List (List Int)},(∀ t ∈ ts,Wr.Bytes t)->∀ (l:List S30),evsG ts=some l↔(∀ x ∈ l,OkE x)/\ts=l.map evl
 | [],_,l=>by
  unfold evsG
  constructor
  ·intro h
   obtain rfl:=Option.some.inj h
   exact ⟨λx hx=>(by cases hx),rfl⟩
  ·rintro ⟨_,h⟩
   have:l=[]:=List.map_eq_nil_iff.mp h.symm
   rw [this]
 | t :: ts,ht,l=>by
  have ih:=evsG_iff (λs hs=>ht s (List.mem_cons_of_mem _ hs))
  unfold evsG
  constructor
  ·intro h
   cases h1:ev1 t with
   | none=>rw [h1] at h;cases h
   | some x =>
    rw [h1] at h
    obtain ⟨m,h2,rfl⟩:=Option.map_eq_some_iff.mp h
    have hx:=(ev1_iff (ht t List.mem_cons_self) x).mp h1
    have hm:=(ih m).mp h2
    refine ⟨λy hy=>?_,by rw [List.map_cons,<-hx.2,<-hm.2]⟩
    rcases List.mem_cons.mp hy with rfl|hy
    ·exact hx.1
    ·exact hm.1 y hy
  ·rintro ⟨hk,he⟩
   match l,he with
   | x :: m,he =>
    rw [List.map_cons] at he
    injection he with e1 e2
    have h1:=(ev1_iff (ht t List.mem_cons_self) x).mpr ⟨hk x List.mem_cons_self,e1⟩
    have h2:=(ih m).mpr ⟨λy hy=>hk y (List.mem_cons_of_mem _ hy),e2⟩
    rw [h1]
    simp only
    rw [h2]
    rfl
def askB (s:Bool):Int:=if s=true then 1 else 0
def letB (c:List Int) (s:Bool) (es:List S30):List Int:=pack ([[askB s],putB c]++es.map evl)
def OkL (c:List Int) (es:List S30):Prop:=okC c=true/\(trim (ofL c)).length=c.length/\es.length<=16/\∀ x ∈ es,OkE x
instance (c:List Int) (es:List S30):Decidable (OkL c es):=by unfold OkL;infer_instance
def letG (b:List Int):Option (List Int×Bool×List S30):=match unpack b 18 with
 | none=>none
 | some (l,n)=>if n=b.length/\2<=l.length/\(l.getD 0 []).length=1/\(l.getD 0 []).getD 0 0<=1 then(match pastD (l.getD 1 []) with
  | none=>none
  | some c=>(evsG (l.drop 2)).map λes=>(c,decide ((l.getD 0 []).getD 0 0=1),es)) else none
theorem let_texts {c:List Int} {es:List S30} (s:Bool) (h:OkL c es):∀ t ∈ [[askB s],putB c]++es.map evl,t.length<=8300/\Wr.Bytes t:=by
 obtain ⟨h1,h2,h3,h4⟩:=h
 intro t ht
 rcases List.mem_append.mp ht with ht|ht
 ·simp only [List.mem_cons,List.not_mem_nil,or_false] at ht
  rcases ht with rfl|rfl
  ·refine ⟨by simp,λx hx=>?_⟩
   rw [List.mem_singleton] at hx
   subst hx
   cases s<;>simp [askB]
  ·have:=putB_len c
   exact ⟨by omega,putB_bytes c⟩
 ·obtain ⟨x,hx,rfl⟩:=List.mem_map.mp ht
  have hk:=h4 x hx
  refine ⟨evB_le hk,pack_bytes _ ?_ (λt ht=>by have:=ev_texts hk t ht;exact ⟨this.2,by omega⟩)⟩
  have:=hk.2.2.2.2.2.2.2.2.1
  simp only [List.length_append,List.length_cons,List.length_nil,List.length_map]
  omega
theorem let_len (c:List Int) (s:Bool) (es:List S30):([[askB s],putB c]++es.map evl).length=es.length+2:=by
 rw [List.length_append,List.length_map];simp only [List.length_cons,List.length_nil];omega
theorem letB_le {c:List Int} {es:List S30} (s:Bool) (h:OkL c es):(letB c s es).length<=200000:=by
 have:=pack_le 8300 (by decide) ([[askB s],putB c]++es.map evl) (by rw [let_len];have:=h.2.2.1;omega) (λt ht=>(let_texts s h t ht).1)
 rw [let_len] at this
 have h3:=h.2.2.1
 unfold letB
 have h4:(es.length+2)*(8300+9)<=18*(8300+9):=Nat.mul_le_mul_right _ (by omega)
 omega
theorem unpack_let {c:List Int} {es:List S30} (s:Bool) (h:OkL c es):unpack (letB c s es) 18=some ([[askB s],putB c]++es.map evl,(letB c s es).length):=by
 have:=unpack_pack ([[askB s],putB c]++es.map evl) (λt ht=>by have:=let_texts s h t ht;omega) (by rw [let_len];have:=h.2.2.1;omega) 18 (by rw [let_len];have:=h.2.2.1;omega) []
 rw [List.append_nil] at this
 exact this
theorem askB_eq (s:Bool):decide (askB s=1)=s:=by cases s<;>simp [askB]
theorem letG_put {c:List Int} {es:List S30} (s:Bool) (h:OkL c es):letG (letB c s es)=some (c,s,es):=by
 have ht:=let_texts s h
 unfold letG
 rw [unpack_let s h]
 simp only
 rw [if_pos ⟨trivial,by rw [let_len];omega,rfl,(show askB s<=1 by cases s<;>decide)⟩]
 show(match pastD (putB c) with
  | none=>none
  | some c=>(evsG (es.map evl)).map λes=>(c,decide (askB s=1),es))=_
 rw [pastD_put h.1 h.2.1]
 simp only
 rw [(evsG_iff (λt hm=>(ht t (List.mem_append_right _ hm)).2) es).mpr ⟨h.2.2.2,rfl⟩,askB_eq]
 rfl
theorem pastD_ok {t:List Int} (ht:Wr.Bytes t) {c:List Int} (h:pastD t=some c):t=putB c/\okC c=true/\(trim (ofL c)).length=c.length:=by
 refine ⟨pastD_some ht h,?_⟩
 unfold pastD at h
 cases hu:readB t with
 | none=>rw [hu] at h;cases h
 | some q =>
  obtain ⟨d,n⟩:=q
  rw [hu] at h
  simp only at h
  split at h
  ·obtain rfl:=Option.some.inj h
   have:=read_some ht hu
   exact ⟨this.2.2.2.2.2,by rw [this.2.1]⟩
  ·cases h
theorem letG_iff {b:List Int} (hb:Wr.Bytes b) (c:List Int) (s:Bool) (es:List S30):letG b=some (c,s,es)↔OkL c es/\b=letB c s es:=by
 constructor
 ·intro h
  unfold letG at h
  cases hu:unpack b 18 with
  | none=>rw [hu] at h;cases h
  | some q =>
   obtain ⟨l,n⟩:=q
   rw [hu] at h
   simp only at h
   split at h
   ·rename_i hn
    obtain ⟨hn,h2,h1,hv⟩:=hn
    have hs:=unpack_some hb hu
    have h0:=hs.1
    rw [hn,List.take_length] at h0
    obtain ⟨t0,t1,r,rfl⟩:∃ t0 t1 r,l=t0 :: t1 :: r:=by
     match l,h2 with
     | t0 :: t1 :: r,_=>exact ⟨t0,t1,r,rfl⟩
    simp only [List.getD_cons_zero,List.getD_cons_succ,List.drop_succ_cons,List.drop_zero] at h h1 hv
    have hB:=hs.2.2.2.2.2
    obtain ⟨v,rfl⟩:=List.length_eq_one_iff.mp h1
    have hv0:=(hB [v] (by simp)).2 v (by simp)
    simp only [List.getD_cons_zero] at h hv
    cases hp:pastD t1 with
    | none=>rw [hp] at h;cases h
    | some c' =>
     rw [hp] at h
     obtain ⟨es',he,e⟩:=Option.map_eq_some_iff.mp h
     simp only [Prod.mk.injEq] at e
     obtain ⟨rfl,hd,rfl⟩:=e
     have hpo:=pastD_ok (hB t1 (by simp)).2 hp
     have heo:=(evsG_iff (λt ht=>(hB t (by simp [ht])).2) es').mp he
     have hlen:=hs.2.1
     simp only [List.length_cons] at hlen
     have hl2:r.length=es'.length:=by rw [heo.2,List.length_map]
     refine ⟨⟨hpo.2.1,hpo.2.2,by omega,heo.1⟩,?_⟩
     rw [h0]
     unfold letB
     rw [<-heo.2,<-hpo.1]
     have:v=askB s:=by
      rw [<-hd]
      unfold askB
      by_cases h1:v=1
      ·rw [if_pos (decide_eq_true h1)];exact h1
      ·rw [if_neg (by rw [decide_eq_false h1];decide)];omega
     rw [this]
     rfl
   ·cases h
 ·rintro ⟨hk,rfl⟩
  exact letG_put s hk
end Go.Proofs.Ytgocnchjpecafaa.PEv
namespace Go.Proofs.Ytgocnchjpecafaa.PEv
open Go.RowKit Go.Proofs.YtgocnchjpecafaaW.PrintWords Go.Proofs.YtgocnchjpecafaaW.PrintLast Go.Proofs.Ytgocnchjpecafaa.ClockBase Go.Proofs.Ytgocnchjpecafaa.Wr
set_option linter.unusedVariables false
set_option linter.unusedSimpArgs false
theorem awake28_ev:Ev (λk=>w28_awake.f k) true:=by
 have h:∃ k,w28_awake.f k=some true:=⟨40,by decide +kernel⟩
 obtain ⟨n,hn⟩:=h
 refine ⟨n,λk hk=>?_⟩
 induction hk with
 | refl=>exact hn
 | step _ ih=>exact w28_awake.mono _ _ ih
theorem rd30_at {l:List S30} {i:Nat} (h:i<l.length):rd_T30 l (i:Int)=l[i]:=by
 unfold rd_T30
 rw [Int.toNat_natCast,List.getD_eq_getElem?_getD,List.getElem?_eq_getElem h]
 rfl
theorem goGet_loop (ts:List (List Int)) (hts:ts.length<=1000) (hb:∀ t ∈ ts,t.length<=65536/\Wr.Bytes t) (d:Nat):∀ (i:Nat) (acc:List S30),i+d=ts.length->acc.length=i->Ev (λk=>gossip_Get.l0 k ts acc (i:Int)) ((evsG (ts.drop i)).map (acc++·)):=by
 induction d with
 | zero =>
  intro i acc hi ho
  rw [List.drop_eq_nil_of_le (by omega)]
  have e:(evsG []).map (acc++·)=some acc:=by simp [evsG]
  rw [e]
  refine Ev.step (f:=λ_=>some (some acc)) (λk=>?_) (Ev.now _)
  simp only [gossip_Get.l0]
  rw [if_neg (by omega)]
 | succ d ih =>
  intro i acc hi ho
  have hlt:i<ts.length:=by omega
  have ht:=hb _ (List.getElem_mem hlt)
  rw [List.drop_eq_getElem_cons hlt]
  refine Ev.step (f:=λk=>(event_Get.f k ts[i]).bind λx=>if x.2.2.2.2=0 then gossip_Get.l0 k ts (acc++[⟨⟨x.1,x.2.1⟩,x.2.2.1,x.2.2.2.1⟩]) ((i+1:Nat):Int) else some none) (λk=>?_) ?_
  ·simp only [gossip_Get.l0];rw [if_pos (by omega),if_pos (by omega),rdB_at hlt,ck_w (by omega)];simp only [if_pos (show acc.length+1<2199023255552 by omega)]
  ·refine Ev.bind (evGet_ev _ ht.2 (by omega)) ?_
   unfold evsG ev1
   cases hx:evG ts[i] with
   | none=>exact ck_else (by simp [getR,event_Get.fail]) (Ev.now _)
   | some x =>
    refine ck_if rfl ?_
    have h1:=ih (i+1) (acc++[⟨⟨x.1,x.2.1⟩,x.2.2.1,x.2.2.2⟩]) (by omega) yem_0
    simp only [Option.map_some]
    cases hw:evsG (ts.drop (i+1)) with
    | none=>rw [hw] at h1;exact h1
    | some l =>
     rw [hw] at h1
     show Ev (λk=>gossip_Get.l0 k ts (acc++[⟨⟨x.1,x.2.1⟩,x.2.2.1,x.2.2.2⟩]) ((i+1:Nat):Int)) _
     simpa using h1
def goR (o:Option (List Int×Bool×List S30)):List Int×Bool×List S30×Int:=match o with
 | none=>gossip_Get.fail
 | some e=>(e.1,e.2.1,e.2.2,0)
theorem goGet_ev (b:List Int) (hb:Wr.Bytes b) (hn:b.length<=140737488351232):Ev (λk=>gossip_Get.f k b) (goR (letG b)):=by
 unfold gossip_Get.f letG
 refine Ev.bind (unpack_ev b hb hn 18 (by decide)) ?_
 unfold packR
 cases hu:unpack b 18 with
 | none=>exact ck_else (by simp) (Ev.now _)
 | some q =>
  obtain ⟨l,n⟩:=q
  have hs:=unpack_some hb hu
  have hB:=hs.2.2.2.2.2
  refine ck_if rfl ?_
  simp only
  by_cases hw:n=b.length
  rotate_left
  ·rw [if_neg (λh=>hw h.1)]
   exact ck_else (by omega) (Ev.now _)
  refine ck_if (by omega) ?_
  by_cases h2:2<=l.length
  rotate_left
  ·rw [if_neg (λh=>h2 h.2.1)]
   exact ck_if (by omega) (Ev.now _)
  refine ck_else (by omega) ?_
  obtain ⟨t0,t1,r,rfl⟩:∃ t0 t1 r,l=t0 :: t1 :: r:=by
   match l,h2 with
   | t0 :: t1 :: r,_=>exact ⟨t0,t1,r,rfl⟩
  have b0:=hB t0 (by simp)
  have b1:=hB t1 (by simp)
  simp only [List.getD_cons_zero,List.getD_cons_succ,List.drop_succ_cons,List.drop_zero]
  have e0:Hand.rdB (t0 :: t1 :: r) 0=t0:=rfl
  have e1:Hand.rdB (t0 :: t1 :: r) 1=t1:=rfl
  simp only [e0,e1]
  by_cases h1:t0.length=1
  rotate_left
  ·rw [if_neg (λh=>h1 h.2.2.1)]
   exact ck_else (by omega) (Ev.now _)
  refine ck_if (by omega) ?_
  obtain ⟨v,rfl⟩:=List.length_eq_one_iff.mp h1
  have ev:rd [v] 0=v:=rfl
  simp only [ev,List.getD_cons_zero]
  by_cases hv:v<=1
  rotate_left
  ·rw [if_neg (λh=>hv h.2.2.2)]
   exact ck_if (by omega) (Ev.now _)
  refine ck_else (by omega) ?_
  rw [if_pos ⟨hw,h2,h1,hv⟩]
  refine Ev.bind (read_ev t1 b1.2 (by omega)) ?_
  unfold readP pastD
  cases hrd:readB t1 with
  | none=>exact ck_else (by simp) (Ev.now _)
  | some q =>
   obtain ⟨c,j⟩:=q
   refine ck_if rfl ?_
   by_cases hj:j=t1.length
   rotate_left
   ·simp only [if_neg hj]
    exact ck_else yem_1 (Ev.now _)
   refine ck_if yem_1 ?_
   simp only [if_pos hj]
   have hl:=goGet_loop r (by have:=hs.2.1;simp at this;omega) (λt ht=>hB t (by simp [ht])) r.length 0 [] (by omega) rfl
   rw [List.drop_zero] at hl
   have e:(evsG r).map (([]:List S30)++·)=evsG r:=by cases evsG r<;>rfl
   rw [e] at hl
   refine Ev.bind hl ?_
   cases hx:evsG r with
   | none=>exact Ev.now _
   | some es =>
    refine ev_is ?_
    have:(v == 1)=decide (v=1):=by rw [Bool.eq_iff_iff,beq_iff_eq,decide_eq_true_iff]
    rw [this]
    rfl
def allOk (l:List S30):Bool:=l.all λx=>decide (OkE x)
theorem allOk_iff {l:List S30}:allOk l=true↔∀ x ∈ l,OkE x:=by
 unfold allOk
 rw [List.all_eq_true]
 exact ⟨λh x hx=>of_decide_eq_true (h x hx),λh x hx=>decide_eq_true (h x hx)⟩
theorem allOk_cons (x:S30) (l:List S30):allOk (x :: l)=(decide (OkE x) && allOk l):=by unfold allOk;rw [List.all_cons]
theorem refMay28_loop (c:List Int) (s:Bool) (es:List S30) (hc:c.length<=140737488355328) (hn:es.length<=140737488355328) (hp:∀ x ∈ es,x.f1.length<=140737488355328/\x.f2.length<=140737488355328) (d:Nat):∀ (i:Nat),i+d=es.length->Ev (λk=>r28_May.l0 k (i:Int) c s es) (allOk (es.drop i) && decide (okC c=true/\(trim (ofL c)).length=c.length/\es.length<=16)):=by
 induction d with
 | zero =>
  intro i hi
  rw [List.drop_eq_nil_of_le (by omega)]
  refine Ev.step (f:=λk=>(r03_May.f k c).bind λt578=>(if t578=true then((r03_Plain.f k c).bind λt579=>((r03_Same.f k t579 c).bind λt582=>(if t582=true then(some (decide ((es.length:Int)<=16))) else(some false)))) else(some false))) (λk=>?_) ?_
  ·simp only [r28_May.l0];rw [if_neg (by omega)]
  ·rw [show allOk []=true from rfl,Bool.true_and]
   refine Ev.bind (may_ev c hc) ?_
   by_cases h1:okC c=true
   rotate_left
   ·rw [decide_eq_false (λh:okC c=true/\(trim (ofL c)).length=c.length/\es.length<=16=>h1 h.1)]
    exact ck_else h1 (Ev.now _)
   refine ck_if h1 ?_
   refine Ev.bind (plain_ev c hc) ?_
   refine Ev.bind (same_ev _ c (trim_five (good_of c))) ?_
   by_cases h2:(trim (ofL c)).length=c.length
   rotate_left
   ·rw [decide_eq_false (λh:okC c=true/\(trim (ofL c)).length=c.length/\es.length<=16=>h2 h.2.1)]
    exact ck_else (λh=>h2 (congrArg List.length (of_decide_eq_true h))) (Ev.now _)
   refine ck_if (decide_eq_true (plain_self h1 h2)) ?_
   refine ev_is ?_
   rw [Option.some.injEq,decide_eq_decide]
   exact ⟨λh=>⟨h1,h2,by omega⟩,λh=>by have:=h.2.2;omega⟩
 | succ d ih =>
  intro i hi
  have hlt:i<es.length:=by omega
  have hx:=hp _ (List.getElem_mem hlt)
  rw [List.drop_eq_getElem_cons hlt]
  have er:rd_T30 es (i:Int)=es[i]:=rd30_at hlt
  refine Ev.step (f:=λk=>(r05_May.f k (es[i]).f0.f0 (es[i]).f0.f1 (es[i]).f1 (es[i]).f2).bind λt=>(if t=true then(r28_May.l0 k ((i+1:Nat):Int) c s es) else(some false))) (λk=>?_) ?_
  ·simp only [r28_May.l0];rw [if_pos (by omega),if_pos (by omega),er,ck_w (by omega)]
  ·refine Ev.bind (refMay_ev _ _ _ _ hx.1 hx.2) ?_
   rw [allOk_cons]
   by_cases h:OkE es[i]
   ·refine ck_if (decide_eq_true h) ?_
    rw [decide_eq_true h,Bool.true_and]
    exact ih (i+1) (by omega)
   ·refine ck_else (λhh=>h (of_decide_eq_true hh)) ?_
    rw [decide_eq_false h,Bool.false_and,Bool.false_and]
    exact Ev.now _
theorem refMay28_ev (c:List Int) (s:Bool) (es:List S30) (hc:c.length<=140737488355328) (hn:es.length<=140737488355328) (hp:∀ x ∈ es,x.f1.length<=140737488355328/\x.f2.length<=140737488355328):Ev (λk=>r28_May.f k c s es) (decide (OkL c es)):=by
 have:=refMay28_loop c s es hc hn hp es.length 0 (by omega)
 rw [List.drop_zero] at this
 have e:(allOk es && decide (okC c=true/\(trim (ofL c)).length=c.length/\es.length<=16))=decide (OkL c es):=by
  rw [Bool.eq_iff_iff,Bool.and_eq_true,allOk_iff,decide_eq_true_iff,decide_eq_true_iff]
  exact ⟨λh=>⟨h.2.1,h.2.2.1,h.2.2.2,h.1⟩,λh=>⟨h.2.2.2,h.1,h.2.1,h.2.2.1⟩⟩
 rw [e] at this
 exact this
theorem refPut28_loop (c:List Int) (s:Bool) (es:List S30) (hes:es.length<=16) (hk:∀ x ∈ es,OkE x) (p q:List Int) (hp:p.length<=447) (hq:q.length<=447) (d:Nat):∀ (i:Nat),i+d=es.length->Ev (λk=>r28_Put.l0 k ([p,q]++(es.map evl).take i) (i:Int) c s es) (pack ([p,q]++es.map evl)):=by
 have hn:(es.map evl).length=es.length:=by rw [List.length_map]
 induction d with
 | zero =>
  intro i hi
  obtain rfl:i=es.length:=by omega
  have e:(es.map evl).take es.length=es.map evl:=by rw [<-hn,List.take_length]
  rw [e]
  refine Ev.step (f:=λk=>(r02_Pack.f k ([p,q]++es.map evl)).bind λt=>some t) (λk=>?_) (Ev.bind ?_ (Ev.now _))
  ·simp only [r28_Put.l0];rw [if_neg (by omega)]
  ·refine refPack_ev _ (by rw [List.length_append,hn];simp only [List.length_cons,List.length_nil];omega) (λt ht=>?_)
   rcases List.mem_append.mp ht with ht|ht
   ·simp only [List.mem_cons,List.not_mem_nil,or_false] at ht;rcases ht with rfl|rfl<;>omega
   ·obtain ⟨x,hx,rfl⟩:=List.mem_map.mp ht
    have:(evl x).length<=8300:=evB_le (hk x hx)
    omega
 | succ d ih =>
  intro i hi
  have hlt:i<es.length:=by omega
  have hx:=hk _ (List.getElem_mem hlt)
  have hlen:([p,q]++(es.map evl).take i).length<5864062014805:=by rw [List.length_append,List.length_take];simp only [List.length_cons,List.length_nil];omega
  have ht:[p,q]++(es.map evl).take (i+1)=([p,q]++(es.map evl).take i)++[evl es[i]]:=by
   rw [List.take_add_one,List.getElem?_eq_getElem (by omega)]
   simp
  have er:rd_T30 es (i:Int)=es[i]:=rd30_at hlt
  refine Ev.step (f:=λk=>(r05_Put.f k (es[i]).f0.f0 (es[i]).f0.f1 (es[i]).f1 (es[i]).f2).bind λr=>r28_Put.l0 k (([p,q]++(es.map evl).take i)++[r]) ((i+1:Nat):Int) c s es) (λk=>?_) ?_
  ·simp only [r28_Put.l0];rw [if_pos (by omega),if_pos (by omega),er,ck_w (by omega)];simp only [if_pos hlen]
  ·refine Ev.bind (refEvPut_ev hx) ?_
   have:=ih (i+1) (by omega)
   rw [ht] at this
   exact this
theorem refPut28_ev {c:List Int} {es:List S30} (s:Bool) (hk:OkL c es):Ev (λk=>r28_Put.f k c s es) (letB c s es):=by
 have key:Ev (λk=>r28_Put.j0 k (askB s) c s es) (letB c s es):=by
  refine Ev.step (f:=λk=>(r03_Put.f k c).bind λt557=>(r28_Put.l0 k (([[askB s],t557]:List (List Int))) 0 c s es)) (λk=>rfl) ?_
  refine Ev.bind (refPut_ev c (by have:=(okC_iff.mp hk.1).1;omega)) ?_
  have:=refPut28_loop c s es hk.2.2.1 hk.2.2.2 [askB s] (putB c) (by simp) (by have:=putB_len c;omega) es.length 0 (by omega)
  rw [List.take_zero,List.append_nil] at this
  exact this
 unfold r28_Put.f
 cases s with
 | true=>exact ck_if rfl key
 | false=>exact ck_else (by decide) key
theorem refGet28_loop (l:List (List Int)) (hl:l.length<=1000) (hb:∀ t ∈ l,t.length<=65536/\Wr.Bytes t) (d:Nat):∀ (i:Nat) (acc:List S30),i+d=l.length->acc.length+2=i->Ev (λk=>r28_Get.l0 k l acc (i:Int)) ((evsG (l.drop i)).map (acc++·)):=by
 induction d with
 | zero =>
  intro i acc hi ho
  rw [List.drop_eq_nil_of_le (by omega)]
  have e:(evsG []).map (acc++·)=some acc:=by simp [evsG]
  rw [e]
  refine Ev.step (f:=λ_=>some (some acc)) (λk=>?_) (Ev.now _)
  simp only [r28_Get.l0]
  rw [if_neg (by omega)]
 | succ d ih =>
  intro i acc hi ho
  have hlt:i<l.length:=by omega
  have ht:=hb _ (List.getElem_mem hlt)
  rw [List.drop_eq_getElem_cons hlt]
  refine Ev.step (f:=λk=>(r05_Get.f k l[i]).bind λx=>if x.2.2.2.2=true then r28_Get.l0 k l (acc++[⟨⟨x.1,x.2.1⟩,x.2.2.1,x.2.2.2.1⟩]) ((i+1:Nat):Int) else some none) (λk=>?_) ?_
  ·simp only [r28_Get.l0];rw [if_pos (by omega),if_pos (by omega),rdB_at hlt,ck_w (by omega)];simp only [if_pos (show acc.length+1<2199023255552 by omega)]
  ·refine Ev.bind (refEvGet_ev _ ht.2 (by omega)) ?_
   rw [evH_eq ht.2]
   unfold evsG ev1
   cases hx:evG l[i] with
   | none=>exact ck_else (by simp [getR2,r05_Get.fail]) (Ev.now _)
   | some x =>
    refine ck_if rfl ?_
    have h1:=ih (i+1) (acc++[⟨⟨x.1,x.2.1⟩,x.2.2.1,x.2.2.2⟩]) (by omega) yem_0
    simp only [Option.map_some]
    cases hw:evsG (l.drop (i+1)) with
    | none=>rw [hw] at h1;exact h1
    | some m =>
     rw [hw] at h1
     show Ev (λk=>r28_Get.l0 k l (acc++[⟨⟨x.1,x.2.1⟩,x.2.2.1,x.2.2.2⟩]) ((i+1:Nat):Int)) _
     simpa using h1
def goR2 (o:Option (List Int×Bool×List S30)):List Int×Bool×List S30×Bool:=match o with
 | none=>r28_Get.fail
 | some e=>(e.1,e.2.1,e.2.2,true)
theorem evsG_len:∀ {ts:List (List Int)} {l:List S30},evsG ts=some l->l.length=ts.length
 | [],l,h=>by obtain rfl:=Option.some.inj h;rfl
 | t :: ts,l,h=>by
  unfold evsG at h
  cases h1:ev1 t with
  | none=>rw [h1] at h;cases h
  | some x =>
   rw [h1] at h
   obtain ⟨m,h2,rfl⟩:=Option.map_eq_some_iff.mp h
   simp [evsG_len h2]
theorem OkE_len {x:S30} (h:OkE x):x.f1.length<=140737488355328/\x.f2.length<=140737488355328:=by
 have h1:=(okC_iff.mp h.2.2.2.2.1).1
 have h2:=h.2.2.2.2.2.2.2.2.1
 omega
theorem refGet28_ev (b:List Int) (hb:Wr.Bytes b) (hn:b.length<=140737488351232):Ev (λk=>r28_Get.f k b) (goR2 (letG b)):=by
 unfold r28_Get.f
 refine Ev.bind (refUnpack_ev b hb hn 18 (by decide)) ?_
 unfold packR2
 cases hu:unpack b 18 with
 | none =>
  have:letG b=none:=by unfold letG;rw [hu]
  rw [this]
  exact ck_if (by simp) (Ev.now _)
 | some q =>
  obtain ⟨l,n⟩:=q
  have hs:=unpack_some hb hu
  have hB:=hs.2.2.2.2.2
  simp only
  by_cases h2:2<=l.length
  rotate_left
  ·have:letG b=none:=by unfold letG;rw [hu];exact if_neg (λh=>h2 h.2.1)
   rw [this]
   exact ck_if (by omega) (Ev.now _)
  refine ck_else (by omega) ?_
  obtain ⟨t0,t1,r,rfl⟩:∃ t0 t1 r,l=t0 :: t1 :: r:=by
   match l,h2 with
   | t0 :: t1 :: r,_=>exact ⟨t0,t1,r,rfl⟩
  have b1:=hB t1 (by simp)
  have e1:Hand.rdB (t0 :: t1 :: r) 1=t1:=rfl
  simp only [e1]
  refine Ev.bind (refRead_ev t1 b1.2 (by omega)) ?_
  have hl:=refGet28_loop (t0 :: t1 :: r) (by have:=hs.2.1;omega) hB r.length 2 [] (by simp;omega) rfl
  have e4:(evsG ((t0 :: t1 :: r).drop 2)).map (([]:List S30)++·)=evsG r:=by
   show(evsG r).map _=evsG r
   cases evsG r<;>rfl
  rw [e4] at hl
  refine Ev.bind hl ?_
  generalize hask:r28_Get.asks (t0 :: t1 :: r)=s
  have must:∀ c' s' es',letG b=some (c',s',es')->OkL c' es'/\b=letB c' s' es'/\(readQ t1).1=c'/\s=s'/\evsG r=some es':=by
   intro c' s' es' h
   obtain ⟨hk,he⟩:=(letG_iff hb c' s' es').mp h
   have h3:=unpack_let s' hk
   rw [<-he,hu] at h3
   injection h3 with h3
   injection h3 with h4 h5
   simp only [List.cons_append,List.nil_append,List.cons.injEq] at h4
   obtain ⟨rfl,rfl,rfl⟩:=h4
   refine ⟨hk,he,readQ_of (pastD_put hk.1 hk.2.1),?_,(evsG_iff (λt ht=>(hB t (by simp only [List.mem_cons];exact Or.inr (Or.inr ht))).2) es').mpr ⟨hk.2.2.2,rfl⟩⟩
   rw [<-hask]
   unfold r28_Get.asks
   have e0:Hand.rdB ([askB s'] :: putB c' :: es'.map evl) 0=[askB s']:=rfl
   rw [e0]
   cases s'<;>rfl
  cases hx:evsG r with
  | none =>
   have:letG b=none:=by
    cases hl:letG b with
    | none=>rfl
    | some q =>
     obtain ⟨c',s',es'⟩:=q
     have:=(must c' s' es' hl).2.2.2.2
     rw [hx] at this
     cases this
   rw [this]
   exact Ev.now _
  | some es =>
   have hes:=evsG_len hx
   have hr:r.length<=18:=by have:=hs.2.1;simp at this;omega
   have hok:=((evsG_iff (λt ht=>(hB t (by simp [ht])).2) es).mp hx).1
   simp only
   refine Ev.bind (refMay28_ev (readQ t1).1 s es (readQ_len t1) (by omega) (λx hx=>OkE_len (hok x hx))) ?_
   by_cases hk:OkL (readQ t1).1 es
   rotate_left
   ·refine ck_else (λh=>hk (of_decide_eq_true h)) ?_
    have:letG b=none:=by
     cases hl:letG b with
     | none=>rfl
     | some q =>
      obtain ⟨c',s',es'⟩:=q
      obtain ⟨m1,m2,m3,m4,m5⟩:=must c' s' es' hl
      rw [hx] at m5
      obtain rfl:=Option.some.inj m5
      rw [<-m3] at m1
      exact absurd m1 hk
    rw [this]
    exact Ev.now _
   refine ck_if (decide_eq_true hk) ?_
   refine Ev.bind (refPut28_ev s hk) ?_
   refine Ev.bind (eq_ev (letB (readQ t1).1 s es) b (by have:=letB_le s hk;omega)) ?_
   by_cases hq:letB (readQ t1).1 s es=b
   ·refine ck_if (decide_eq_true hq) ?_
    rw [(letG_iff hb _ s es).mpr ⟨hk,hq.symm⟩]
    exact Ev.now _
   ·refine ck_else (λh=>hq (of_decide_eq_true h)) ?_
    have:letG b=none:=by
     cases hl:letG b with
     | none=>rfl
     | some q =>
      obtain ⟨c',s',es'⟩:=q
      obtain ⟨m1,m2,m3,m4,m5⟩:=must c' s' es' hl
      rw [hx] at m5
      obtain rfl:=Option.some.inj m5
      rw [<-m3,<-m4] at m2
      exact absurd m2.symm hq
    rw [this]
    exact Ev.now _
end Go.Proofs.Ytgocnchjpecafaa.PEv
